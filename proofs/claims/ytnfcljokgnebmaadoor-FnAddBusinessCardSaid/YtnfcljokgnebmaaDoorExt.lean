/-
  The Go functions IsBusiness, AddBusiness and BusinessBetween return what the plain functions of YtnfcljokgnebmaaDoorBiz say, for every slice that reads as a list of numbers, and leave all memory that was there. Conditions: none.
-/
import Derived.Test.YtnfcljokgnebmaaDoorQx0
import Derived.Test.YtnfcljokgnebmaaDoorBiz
import Derived.Maps.OwnSet
import Derived.Lib.Hide
namespace Go.Proofs.YtnfcljokgnebmaaDoor.Q
open Go.RowKit Go.Maps Go.Proofs.YtnfcljokgnebmaaDoorW.PrintWords Go.Proofs.YtnfcljokgnebmaaDoor.Biz
set_option linter.unusedVariables false

theorem ret_int {k : IntKind} {a b : Int} (h : a = b) : Ending.returned (.int k a) = .returned (.int k b) := by rw [h]
theorem lawK : Keyed Tryd.prog 3 := int_keyed Tryd.underlying3
theorem zeroU (w : World) : (zeroValue 63).run Tryd.prog w = .ok (.agg #[]) w := by kernel_rfl

/-- The set of these holidays. -/
def HolD (hs : List Int) : DataW Unit := setOf (.agg []) (hs.map (Lit.int .i64))
/-- Block B is a map that holds just these holidays. -/
def HolM (w : World) (B : Nat) (hs : List Int) : Prop := w.ownsMap Tryd.prog 3 unitElem B hs.length (HolD hs)
theorem HolM.below {w w1 : World} {B : Nat} {hs : List Int} (h : HolM w B hs) (hb : Below w.heap.size w w1) : HolM w1 B hs := World.ownsMap.kept h (grown_of_below hb none) (by simp)
theorem HolM.alloc {w : World} {B : Nat} {hs : List Int} (h : HolM w B hs) (o : Obj) : HolM (w.alloc o) B hs := World.ownsMap.alloc h o

theorem any_int (x : Int) : ∀ l : List Int, l.any ((fun y : Lit => y.sameKey (.int .i64 x)) ∘ Lit.int .i64) = l.contains x
  | [] => rfl
  | a :: r => by
    rw [List.any_cons, List.contains_cons, any_int x r]
    congr 1
    show decide (IntKind.i64 = IntKind.i64 ∧ a = x) = (x == a)
    by_cases e : a = x
    · subst e
      simp
    · have e' : ¬ x = a := fun h => e h.symm
      simp [e, e']
theorem has_HolD (hs : List Int) (x : Int) : Maps.has (HolD hs) (.int .i64 x) = hs.contains x := by
  unfold HolD
  rw [has_setOf _ _ _ (fun y hy => by obtain ⟨_, _, rfl⟩ := List.mem_map.1 hy; trivial), List.any_map]
  exact any_int x _
theorem HolD_snoc (hs : List Int) (k : Nat) (hk : k < hs.length) : HolD (hs.take (k + 1)) = (HolD (hs.take k)).put (.int .i64 (hs.getD k 0)) (.agg []) := by
  unfold HolD
  rw [List.take_add_one, List.map_append]
  simp only [List.getElem?_eq_getElem hk, Option.toList_some, List.map_singleton]
  rw [setOf_snoc]
  simp [List.getD, List.getElem?_eq_getElem hk]

set_option maxRecDepth 100000 in
set_option maxHeartbeats 1000000 in
theorem open_yes (hs : List Int) (B : Nat) (n : Int) (w : World) (hm : HolM w B hs) (h0 : 0 ≤ n) (h1 : n ≤ 36524) (ho : openB hs n = true) :
    Calls Tryd.prog 50 #[.map (some B), .int .i64 n] w fun e w' => e = .returned (.bool true) ∧ Below w.heap.size w w' := by
  have hkey : keyOf Tryd.prog 3 (.int .i64 n) = some (.int .i64 n) := keyOf_int_mk Tryd.underlying3 (WalkArith.wf_i64 (by omega))
  have hown : w.ownsMap Tryd.prog 3 unitElem B hs.length (HolD hs) := hm
  obtain ⟨c1, c2⟩ : n % 7 < 5 ∧ hs.contains n = false := by simpa [openB] using ho
  have hhas : Maps.has (HolD hs) (.int .i64 n) = false := by rw [has_HolD]; exact c2
  clear hm ho c2
  go_enter Tryd.func50, Tryd.ntmps50
  go_wp2_with (at_lookup; refine wpList_lookup_own_unit _ rfl _ _ 55 rfl 3 63 lawK Tryd.underlying55 (zeroU _) B _ _ rfl hown _ _ rfl hkey ?_)
  go_ret
  exact ⟨rfl, (Below.refl _ _).alloc (Nat.le_refl _) _⟩
set_option maxRecDepth 100000 in
set_option maxHeartbeats 1000000 in
theorem open_no (hs : List Int) (B : Nat) (n : Int) (w : World) (hm : HolM w B hs) (h0 : 0 ≤ n) (h1 : n ≤ 36524) (ho : openB hs n = false) :
    Calls Tryd.prog 50 #[.map (some B), .int .i64 n] w fun e w' => e = .returned (.bool false) ∧ Below w.heap.size w w' := by
  have hkey : keyOf Tryd.prog 3 (.int .i64 n) = some (.int .i64 n) := keyOf_int_mk Tryd.underlying3 (WalkArith.wf_i64 (by omega))
  have hown : w.ownsMap Tryd.prog 3 unitElem B hs.length (HolD hs) := hm
  clear hm
  by_cases c1 : n % 7 < 5
  · have c2 : hs.contains n = true := by simpa [openB, c1] using ho
    have hhas : Maps.has (HolD hs) (.int .i64 n) = true := by rw [has_HolD]; exact c2
    clear ho c2
    go_enter Tryd.func50, Tryd.ntmps50
    go_wp2_with (at_lookup; refine wpList_lookup_own_unit _ rfl _ _ 55 rfl 3 63 lawK Tryd.underlying55 (zeroU _) B _ _ rfl hown _ _ rfl hkey ?_)
    go_ret
    exact ⟨rfl, (Below.refl _ _).alloc (Nat.le_refl _) _⟩
  · clear ho
    go_enter Tryd.func50, Tryd.ntmps50
    go_wp2_with (at_lookup; refine wpList_lookup_own_unit _ rfl _ _ 55 rfl 3 63 lawK Tryd.underlying55 (zeroU _) B _ _ rfl hown _ _ rfl hkey ?_)
    go_ret
    exact ⟨rfl, (Below.refl _ _).alloc (Nat.le_refl _) _⟩

set_option maxRecDepth 100000 in
set_option maxHeartbeats 1000000 in
theorem seek_up (hs : List Int) (B : Nat) (n : Int) (w : World) (hm : HolM w B hs) (h0 : 0 ≤ n) (h1 : n ≤ 36525) :
    Calls Tryd.prog 46 #[.map (some B), .int .i64 n, .int .i64 1] w fun e w' => e = .returned (.int .i64 (up hs n)) ∧ Below w.heap.size w w' := by
  obtain ⟨U, hU⟩ : ∃ U, U = up hs n := ⟨_, rfl⟩
  rw [← hU]
  have HU := Lib.hid hU
  clear hU
  have HM := Lib.hid hm
  clear hm
  go_enter Tryd.func46, Tryd.ntmps46
  go_wp2_with fail
  go_loopw [1] (fun i wr => ∃ m : Int, 0 ≤ m ∧ m ≤ 36525 ∧ i = .int .i64 m ∧ Hid (U = up hs m) ∧ Hid (Below w.heap.size w wr)) (fun i _ => (36525 - intOf i).toNat)
  case atStart => exact ⟨n, h0, h1, rfl, HU, Lib.hid (Below.refl _ _)⟩
  case round =>
    clear HU
    obtain ⟨m, hm0, hm1, rfl, HU, HB⟩ := hrel
    by_cases hv : m ≤ 36524
    · cases ho : openB hs m with
      | true =>
        have HO := Lib.hid ho
        clear ho
        go_wp2_with (first | (go_at_call 50; (with_reducible refine (open_yes hs B m _ (HM.out.below HB.out) hm0 hv HO.out).mono ?_); rintro e w' ⟨rfl, hb1⟩) | go_in)
        go_ret
        exact ⟨ret_int (by rw [HU.out, up_open hv HO.out]), below_then HB.out HB.out.size hb1⟩
      | false =>
        have HO := Lib.hid ho
        clear ho
        go_wp2_with (first | (go_at_call 50; (with_reducible refine (open_no hs B m _ (HM.out.below HB.out) hm0 hv HO.out).mono ?_); rintro e w' ⟨rfl, hb1⟩) | go_in)
        go_roundw
        case rel => exact ⟨m + 1, by omega, by omega, rfl, Lib.hid (by rw [HU.out, up_next hv HO.out]), Lib.hid (below_then HB.out HB.out.size hb1)⟩
        case measure => simp [intOf]; omega
    · go_wp2_with go_in
      go_ret
      exact ⟨ret_int (by rw [HU.out, up_end (by omega)]), HB.out⟩

set_option maxRecDepth 100000 in
set_option maxHeartbeats 1000000 in
theorem seek_dn (hs : List Int) (B : Nat) (n : Int) (w : World) (hm : HolM w B hs) (h0 : -1 ≤ n) (h1 : n ≤ 36524) :
    Calls Tryd.prog 46 #[.map (some B), .int .i64 n, .int .i64 (-1)] w fun e w' => e = .returned (.int .i64 (dn hs n)) ∧ Below w.heap.size w w' := by
  obtain ⟨U, hU⟩ : ∃ U, U = dn hs n := ⟨_, rfl⟩
  rw [← hU]
  have HU := Lib.hid hU
  clear hU
  have HM := Lib.hid hm
  clear hm
  go_enter Tryd.func46, Tryd.ntmps46
  go_wp2_with fail
  go_loopw [1] (fun i wr => ∃ m : Int, -1 ≤ m ∧ m ≤ 36524 ∧ i = .int .i64 m ∧ Hid (U = dn hs m) ∧ Hid (Below w.heap.size w wr)) (fun i _ => (intOf i + 1).toNat)
  case atStart => exact ⟨n, h0, h1, rfl, HU, Lib.hid (Below.refl _ _)⟩
  case round =>
    clear HU
    obtain ⟨m, hm0, hm1, rfl, HU, HB⟩ := hrel
    by_cases hv : 0 ≤ m
    · cases ho : openB hs m with
      | true =>
        have HO := Lib.hid ho
        clear ho
        go_wp2_with (first | (go_at_call 50; (with_reducible refine (open_yes hs B m _ (HM.out.below HB.out) hv hm1 HO.out).mono ?_); rintro e w' ⟨rfl, hb1⟩) | go_in)
        go_ret
        exact ⟨ret_int (by rw [HU.out, dn_open hv HO.out]), below_then HB.out HB.out.size hb1⟩
      | false =>
        have HO := Lib.hid ho
        clear ho
        go_wp2_with (first | (go_at_call 50; (with_reducible refine (open_no hs B m _ (HM.out.below HB.out) hv hm1 HO.out).mono ?_); rintro e w' ⟨rfl, hb1⟩) | go_in)
        go_roundw
        case rel => exact ⟨m - 1, by omega, by omega, by go_num, Lib.hid (by rw [HU.out, dn_next hv HO.out]), Lib.hid (below_then HB.out HB.out.size hb1)⟩
        case measure => simp [intOf]; omega
    · go_wp2_with go_in
      go_ret
      exact ⟨ret_int (by rw [HU.out, dn_end (by omega)]), HB.out⟩

/-- What holidaysOf comes to. -/
def HolPost (hs : List Int) (w : World) (e : Ending) (w' : World) : Prop :=
  (HolOk hs ∧ ∃ B, e = .returned (.tuple #[.map (some B), .bool true]) ∧ HolM w' B hs ∧ Below w.heap.size w w') ∨ (¬ HolOk hs ∧ e = .returned (.tuple #[.map none, .bool false]) ∧ Below w.heap.size w w')

set_option maxRecDepth 100000 in
set_option maxHeartbeats 1000000 in
theorem hol_none (a : Option Addr) (cap : Nat) (w : World) : Calls Tryd.prog 45 #[.slice a 0 cap] w (HolPost [] w) := by
  have hmm := @run_makeMap Tryd.prog
  go_enter Tryd.func45, Tryd.ntmps45
  go_wp2
  refine wp_loop_rounds 1 ?_
  rw [rounds_succ]
  go_wp2
  go_ret2
  exact .inl ⟨⟨by simp, fun j hj => by simp at hj, fun j hj => by simp at hj⟩, _, rfl, World.ownsMap_made _ _ _ _, (Below.refl _ _).alloc (Nat.le_refl _) _⟩

set_option maxRecDepth 100000 in
set_option maxHeartbeats 1000000 in
theorem hol_many (b off len cap : Nat) (hs : List Int) (w : World) (hl : 12 < len) (hh : hs.length = len) :
    Calls Tryd.prog 45 #[.slice (some ⟨b, off, none⟩) len cap] w (HolPost hs w) := by
  have HH := Lib.hid hh
  clear hh
  go_enter Tryd.func45, Tryd.ntmps45
  go_wp2
  go_ret2
  exact .inr ⟨fun H => by have := H.1; have := HH.out; omega, rfl, Below.refl _ _⟩

set_option maxRecDepth 100000 in
set_option maxHeartbeats 4000000 in
theorem hol_some (b off len cap : Nat) (hs : List Int) (w : World) (hpos : 0 < len) (h12 : len ≤ 12) (hh : hs.length = len) (hb : b < w.heap.size)
    (hc : ∀ j, j < len → w.cell? ⟨b, off + j, none⟩ = some (.int .i64 (hs.getD j 0))) :
    Calls Tryd.prog 45 #[.slice (some ⟨b, off, none⟩) len cap] w (HolPost hs w) := by
  have hmm := @run_makeMap Tryd.prog
  have HH := Lib.hid hh
  clear hh
  have HC := Lib.hid hc
  clear hc
  go_enter Tryd.func45, Tryd.ntmps45
  go_wp2
  go_loopw [13] (fun i wr => ∃ k : Nat, k ≤ len ∧ i = .int .i64 k ∧ OkTo hs k ∧ Hid (wr.ownsMap Tryd.prog 3 unitElem w.heap.size k (HolD (hs.take k))) ∧ Hid (Below w.heap.size w wr)) (fun i _ => len - (intOf i).toNat)
  case atStart => exact ⟨0, Nat.zero_le _, rfl, OkTo.zero _, Lib.hid (World.ownsMap_made _ _ _ _), Lib.hid ((Below.refl _ _).alloc (Nat.le_refl _) _)⟩
  case round =>
    obtain ⟨k, hk, rfl, HK, HM, HB⟩ := hrel
    by_cases hlt : k < len
    · obtain ⟨x, hx⟩ : ∃ x, x = hs.getD k 0 := ⟨_, rfl⟩
      have hcx : wr.cell? ⟨b, off + k, none⟩ = some (.int .i64 x) := by rw [hx]; exact (HB.out.cell (by exact hb)).trans (HC.out k hlt)
      have HX := Lib.hid hx
      clear hx
      by_cases dv : 0 ≤ x ∧ x ≤ 36524
      · obtain ⟨d0, d1⟩ := dv
        have hkey : keyOf Tryd.prog 3 (.int .i64 x) = some (.int .i64 x) := keyOf_int_mk Tryd.underlying3 (WalkArith.wf_i64 (by omega))
        have hown := HM.out
        by_cases k0 : 0 < k
        · obtain ⟨y, hy⟩ : ∃ y, y = hs.getD (k - 1) 0 := ⟨_, rfl⟩
          have hcy : wr.cell? ⟨b, off + (k - 1), none⟩ = some (.int .i64 y) := by rw [hy]; exact (HB.out.cell (by exact hb)).trans (HC.out (k - 1) (by omega))
          have HY := Lib.hid hy
          clear hy
          by_cases hyx : y < x
          · go_wp2_with (first
              | (at_mapUpdate; refine wpList_mapUpdate_own _ rfl _ _ _ 55 rfl 3 63 lawK Tryd.underlying55 (unitElem (H := Unit)) w.heap.size k _ rfl hown (by unfold maxLen; omega) _ _ _ rfl rfl hkey _ [] unitElem_mk ?_; intro w1 hown1 hgrow1)
              | go_in)
            go_roundw
            case rel => exact ⟨k + 1, by omega, by go_num, HK.succ (by rw [← HX.out]; exact d0) (by rw [← HX.out]; exact d1) (fun _ => by rw [← HX.out, ← HY.out]; exact hyx), Lib.hid (by rw [HolD_snoc hs k (by have := HH.out; omega), ← HX.out]; exact hown1), Lib.hid (HB.out.grown hgrow1 HB.out.size (fun j hj => by cases hj; exact Nat.le_refl _))⟩
            case measure => simp [intOf]; omega
          · go_wp2_with go_in
            go_ret2
            refine .inr ⟨fun H => ?_, rfl, HB.out⟩
            have := H.2.2 (k - 1) (by have := HH.out; omega)
            rw [show k - 1 + 1 = k by omega, ← HX.out, ← HY.out] at this
            omega
        · go_wp2_with (first
            | (at_mapUpdate; refine wpList_mapUpdate_own _ rfl _ _ _ 55 rfl 3 63 lawK Tryd.underlying55 (unitElem (H := Unit)) w.heap.size k _ rfl hown (by unfold maxLen; omega) _ _ _ rfl rfl hkey _ [] unitElem_mk ?_; intro w1 hown1 hgrow1)
            | go_in)
          go_roundw
          case rel => exact ⟨k + 1, by omega, by go_num, HK.succ (by rw [← HX.out]; exact d0) (by rw [← HX.out]; exact d1) (fun h => absurd h k0), Lib.hid (by rw [HolD_snoc hs k (by have := HH.out; omega), ← HX.out]; exact hown1), Lib.hid (HB.out.grown hgrow1 HB.out.size (fun j hj => by cases hj; exact Nat.le_refl _))⟩
          case measure => simp [intOf]; omega
      · by_cases d0 : 0 ≤ x
        · have d1 : ¬ x ≤ 36524 := fun e => dv ⟨d0, e⟩
          go_wp2_with go_in
          go_ret2
          refine .inr ⟨fun H => ?_, rfl, HB.out⟩
          have := H.2.1 k (by have := HH.out; omega)
          rw [← HX.out] at this
          omega
        · go_wp2_with go_in
          go_ret2
          refine .inr ⟨fun H => ?_, rfl, HB.out⟩
          have := H.2.1 k (by have := HH.out; omega)
          rw [← HX.out] at this
          omega
    · go_wp2
      go_ret2
      have e : k = hs.length := by have := HH.out; omega
      have hown := HM.out
      rw [e] at HK hown
      rw [List.take_of_length_le (Nat.le_refl _)] at hown
      exact .inl ⟨OkTo.all (by have := HH.out; omega) HK, _, rfl, hown, HB.out⟩

/-- A list that is read, at a plain address. -/
theorem C_plain {w : World} {A : Option Addr} {n : Nat} {xs : List Int} (h : Kd.C (Kd.int .i64) w A n xs) (hn : 0 < n) :
    ∃ b off, A = some ⟨b, off, none⟩ ∧ b < w.heap.size ∧ ∀ j, j < n → w.cell? ⟨b, off + j, none⟩ = some (.int .i64 (xs.getD j 0)) := by
  have hl := h.1
  obtain ⟨ad, rfl, hc⟩ := h.2.2 hn
  have cell : ∀ j, j < n → w.cell? (ad.add j) = some (.int .i64 (xs.getD j 0)) := fun j hj => by
    have hj' : j < xs.length := by omega
    obtain ⟨c, _, hk, hcell⟩ := hc j _ (List.getElem?_eq_getElem hj')
    have hk : c = [.int .i64 xs[j]] := hk
    subst hk
    have := hcell 0 _ rfl
    rw [show (Kd.int .i64).sz = 1 from rfl, Nat.mul_one, Nat.add_zero] at this
    rw [this]
    simp [List.getD, List.getElem?_eq_getElem hj']
  obtain ⟨b, off, spot⟩ := ad
  have hspot : spot = none := by simpa [Addr.add] using World.cell?_spot (cell 0 hn)
  subst hspot
  refine ⟨b, off, rfl, World.block_lt_of_cell? w _ (cell 0 hn), fun j hj => ?_⟩
  have e : (⟨b, off, none⟩ : Addr).add j = ⟨b, off + j, none⟩ := by unfold Addr.add; split <;> simp_all
  rw [← e]
  exact cell j hj

theorem hol_any (A0 : Option Addr) (c0 : Nat) (l0 : List Int) (w : World) (hr0 : Kd.C (Kd.int .i64) w A0 l0.length l0) :
    Calls Tryd.prog 45 #[.slice A0 l0.length c0] w (HolPost l0 w) := by
  rcases Nat.eq_zero_or_pos l0.length with h0 | h0
  · rw [h0]
    obtain rfl := List.eq_nil_of_length_eq_zero h0
    exact hol_none A0 c0 w
  · obtain ⟨b, off, rfl, hb, hc⟩ := C_plain hr0 h0
    by_cases h12 : l0.length ≤ 12
    · exact hol_some b off l0.length c0 l0 w h0 h12 rfl hb hc
    · exact hol_many b off l0.length c0 l0 w (by omega) rfl
theorem hol_yes (A0 : Option Addr) (c0 : Nat) (l0 : List Int) (w : World) (hr0 : Kd.C (Kd.int .i64) w A0 l0.length l0) (H : HolOk l0) :
    Calls Tryd.prog 45 #[.slice A0 l0.length c0] w fun e w' => ∃ B, e = .returned (.tuple #[.map (some B), .bool true]) ∧ Hid (HolM w' B l0) ∧ Hid (Below w.heap.size w w') :=
  (hol_any A0 c0 l0 w hr0).mono fun e w' h => by
    rcases h with ⟨_, B, he, hm, hb⟩ | ⟨hn, _⟩
    · exact ⟨B, he, Lib.hid hm, Lib.hid hb⟩
    · exact absurd H hn
theorem hol_not (A0 : Option Addr) (c0 : Nat) (l0 : List Int) (w : World) (hr0 : Kd.C (Kd.int .i64) w A0 l0.length l0) (H : ¬ HolOk l0) :
    Calls Tryd.prog 45 #[.slice A0 l0.length c0] w fun e w' => e = .returned (.tuple #[.map none, .bool false]) ∧ Hid (Below w.heap.size w w') :=
  (hol_any A0 c0 l0 w hr0).mono fun e w' h => by
    rcases h with ⟨hy, _⟩ | ⟨_, he, hb⟩
    · exact absurd hy H
    · exact ⟨he, Lib.hid hb⟩

/-! ### the three exported functions -/
def impl_IsBusiness.f (l0 : List Int) (a1 : Int) : Option (Bool) := some (isB l0 a1)
def impl_AddBusiness.f (l0 : List Int) (a1 : Int) (a2 : Int) : Option (Int) := some (addDays l0 a1 a2)
def impl_BusinessBetween.f (l0 : List Int) (a1 : Int) (a2 : Int) : Option (Int) := some (between l0 a1 a2)

set_option maxRecDepth 100000 in
set_option maxHeartbeats 2000000 in
theorem impl_IsBusiness.calls (A0 : Option Addr) (c0 : Nat) (l0 : List Int) (a1 : Int) (r : Bool) (w : World) (hr0 : Kd.C (Kd.int .i64) w A0 l0.length l0) (hc0 : l0.length ≤ c0) (h : impl_IsBusiness.f l0 a1 = some r) :
    Calls Tryd.prog 26 #[.slice A0 l0.length c0, .int .i64 a1] w fun e w' => e = .returned (.bool r) ∧ Below w.heap.size w w' := by
  have hr : isB l0 a1 = r := Option.some.inj h
  have HR := Lib.hid hr0
  clear h hr0 hc0
  by_cases H : HolOk l0
  · by_cases d0 : 0 ≤ a1
    · by_cases d1 : a1 ≤ 36524
      · have ho : openB l0 a1 = r := by rw [← hr]; simp [isB, holOk_yes H, dayV_yes d0 d1]
        clear hr
        cases r with
        | true =>
          have HO := Lib.hid ho
          clear ho
          go_enter Tryd.func26, Tryd.ntmps26
          go_wp2_with (first | (go_at_call 45; (with_reducible refine (hol_yes A0 c0 l0 _ HR.out H).mono ?_); rintro e w1 ⟨B, rfl, HM, HB⟩) | (go_at_call 50; (with_reducible refine (open_yes l0 B a1 _ HM.out d0 d1 HO.out).mono ?_); rintro e w2 ⟨rfl, hb2⟩) | go_in)
          go_ret
          exact ⟨rfl, below_then HB.out HB.out.size hb2⟩
        | false =>
          have HO := Lib.hid ho
          clear ho
          go_enter Tryd.func26, Tryd.ntmps26
          go_wp2_with (first | (go_at_call 45; (with_reducible refine (hol_yes A0 c0 l0 _ HR.out H).mono ?_); rintro e w1 ⟨B, rfl, HM, HB⟩) | (go_at_call 50; (with_reducible refine (open_no l0 B a1 _ HM.out d0 d1 HO.out).mono ?_); rintro e w2 ⟨rfl, hb2⟩) | go_in)
          go_ret
          exact ⟨rfl, below_then HB.out HB.out.size hb2⟩
      · have ho : r = false := by rw [← hr]; simp [isB, dayV_no (fun e => d1 e.2)]
        subst ho
        clear hr
        go_enter Tryd.func26, Tryd.ntmps26
        go_wp2_with (first | (go_at_call 45; (with_reducible refine (hol_yes A0 c0 l0 _ HR.out H).mono ?_); rintro e w1 ⟨B, rfl, HM, HB⟩) | go_in)
        go_ret
        exact ⟨rfl, HB.out⟩
    · have ho : r = false := by rw [← hr]; simp [isB, dayV_no (fun e => d0 e.1)]
      subst ho
      clear hr
      go_enter Tryd.func26, Tryd.ntmps26
      go_wp2_with (first | (go_at_call 45; (with_reducible refine (hol_yes A0 c0 l0 _ HR.out H).mono ?_); rintro e w1 ⟨B, rfl, HM, HB⟩) | go_in)
      go_ret
      exact ⟨rfl, HB.out⟩
  · have ho : r = false := by rw [← hr]; simp [isB, holOk_no H]
    subst ho
    clear hr
    go_enter Tryd.func26, Tryd.ntmps26
    go_wp2_with (first | (go_at_call 45; (with_reducible refine (hol_not A0 c0 l0 _ HR.out H).mono ?_); rintro e w1 ⟨rfl, HB⟩) | go_in)
    go_ret
    exact ⟨rfl, HB.out⟩

theorem up_rng (l : List Int) : ∀ (d : Nat) (n : Int), (36525 - n).toNat = d → 0 ≤ n → -1 ≤ up l n ∧ up l n ≤ 36524 := by
  intro d
  induction d with
  | zero => intro n hd _; rw [up_end (by omega)]; omega
  | succ d ih =>
    intro n hd h0
    cases ho : openB l n with
    | true => rw [up_open (by omega) ho]; omega
    | false => rw [up_next (by omega) ho]; exact ih (n + 1) (by omega) (by omega)

/-- The arguments are not what the function takes: -1. -/
theorem add_bad (A0 : Option Addr) (c0 : Nat) (l0 : List Int) (a1 a2 : Int) (w : World) (hr0 : Kd.C (Kd.int .i64) w A0 l0.length l0) (hbad : ¬ (HolOk l0 ∧ 0 ≤ a1 ∧ a1 ≤ 36524 ∧ 0 ≤ a2 ∧ a2 ≤ 30)) :
    Calls Tryd.prog 30 #[.slice A0 l0.length c0, .int .i64 a1, .int .i64 a2] w fun e w' => e = .returned (.int .i64 (-1)) ∧ Below w.heap.size w w' := by
  have HR := Lib.hid hr0
  clear hr0
  by_cases H : HolOk l0
  · by_cases d0 : 0 ≤ a1
    · by_cases d1 : a1 ≤ 36524
      · by_cases m0 : 0 ≤ a2
        · have m1 : decide (a2 ≤ 30) = false := decide_eq_false (fun e => hbad ⟨H, d0, d1, m0, e⟩)
          clear hbad
          go_enter Tryd.func30, Tryd.ntmps30
          go_wp2_with (first | (go_at_call 45; (with_reducible refine (hol_yes A0 c0 l0 _ HR.out H).mono ?_); rintro e w1 ⟨B, rfl, HM, HB⟩) | go_in)
          go_ret
          exact ⟨rfl, HB.out⟩
        · clear hbad
          go_enter Tryd.func30, Tryd.ntmps30
          go_wp2_with (first | (go_at_call 45; (with_reducible refine (hol_yes A0 c0 l0 _ HR.out H).mono ?_); rintro e w1 ⟨B, rfl, HM, HB⟩) | go_in)
          go_ret
          exact ⟨rfl, HB.out⟩
      · clear hbad
        go_enter Tryd.func30, Tryd.ntmps30
        go_wp2_with (first | (go_at_call 45; (with_reducible refine (hol_yes A0 c0 l0 _ HR.out H).mono ?_); rintro e w1 ⟨B, rfl, HM, HB⟩) | go_in)
        go_ret
        exact ⟨rfl, HB.out⟩
    · clear hbad
      go_enter Tryd.func30, Tryd.ntmps30
      go_wp2_with (first | (go_at_call 45; (with_reducible refine (hol_yes A0 c0 l0 _ HR.out H).mono ?_); rintro e w1 ⟨B, rfl, HM, HB⟩) | go_in)
      go_ret
      exact ⟨rfl, HB.out⟩
  · clear hbad
    go_enter Tryd.func30, Tryd.ntmps30
    go_wp2_with (first | (go_at_call 45; (with_reducible refine (hol_not A0 c0 l0 _ HR.out H).mono ?_); rintro e w1 ⟨rfl, HB⟩) | go_in)
    go_ret
    exact ⟨rfl, HB.out⟩

set_option maxRecDepth 100000 in
set_option maxHeartbeats 2000000 in
theorem add_good (A0 : Option Addr) (c0 : Nat) (l0 : List Int) (a1 a2 : Int) (w : World) (hr0 : Kd.C (Kd.int .i64) w A0 l0.length l0) (H : HolOk l0) (d0 : 0 ≤ a1) (d1 : a1 ≤ 36524) (m0 : 0 ≤ a2) (m1 : a2 ≤ 30) :
    Calls Tryd.prog 30 #[.slice A0 l0.length c0, .int .i64 a1, .int .i64 a2] w fun e w' => e = .returned (.int .i64 (addB l0 a2.toNat (up l0 a1))) ∧ Below w.heap.size w w' := by
  have HR := Lib.hid hr0
  clear hr0
  obtain ⟨U, hU⟩ : ∃ U, U = addB l0 a2.toNat (up l0 a1) := ⟨_, rfl⟩
  rw [← hU]
  obtain ⟨u0, u1⟩ := up_rng l0 _ a1 rfl d0
  obtain ⟨s, hs⟩ : ∃ s, up l0 a1 = s := ⟨_, rfl⟩
  rw [hs] at hU u0 u1
  have HU := Lib.hid hU
  have HS := Lib.hid hs
  clear hU hs
  go_enter Tryd.func30, Tryd.ntmps30
  go_wp2_with (first | (go_at_call 45; (with_reducible refine (hol_yes A0 c0 l0 _ HR.out H).mono ?_); rintro e w1 ⟨B, rfl, HM, HB⟩) | (go_at_call 46; (with_reducible refine (seek_up l0 B a1 _ HM.out d0 (by omega)).mono ?_); rw [HS.out]; rintro e w2 ⟨rfl, hb2⟩; have HB2 := Lib.hid (below_then HB.out HB.out.size hb2); have HM2 := Lib.hid (HM.out.below hb2); clear hb2 HB HM) | go_in)
  go_loopw [2, 9] (fun m a wr => ∃ many at_ : Int, 0 ≤ many ∧ many ≤ 30 ∧ -1 ≤ at_ ∧ at_ ≤ 36524 ∧ m = .int .i64 many ∧ a = .int .i64 at_ ∧ Hid (U = addB l0 many.toNat at_) ∧ Hid (HolM wr B l0) ∧ Hid (Below w.heap.size w wr)) (fun m _ _ => (intOf m).toNat)
  case atStart => exact ⟨a2, s, m0, m1, u0, u1, rfl, rfl, HU, HM2, HB2⟩
  case round =>
    clear HU HS HM2 HB2 u0 u1
    obtain ⟨many, at_, n0, n1, t0, t1, rfl, rfl, HU, HM, HB⟩ := hrel
    by_cases hm : 0 < many
    · by_cases ha : 0 ≤ at_
      · obtain ⟨v0, v1⟩ := up_rng l0 _ (at_ + 1) rfl (by omega)
        obtain ⟨v, hv⟩ : ∃ v, up l0 (at_ + 1) = v := ⟨_, rfl⟩
        rw [hv] at v0 v1
        have HV := Lib.hid hv
        clear hv
        go_wp2_with (first | (go_at_call 46; (with_reducible refine (seek_up l0 B (at_ + 1) _ HM.out (by omega) (by omega)).mono ?_); rw [HV.out]; rintro e w2 ⟨rfl, hb2⟩; have HB2 := Lib.hid (below_then HB.out HB.out.size hb2); have HM2 := Lib.hid (HM.out.below hb2); clear hb2 HB HM) | go_in)
        go_roundw
        case rel => exact ⟨many - 1, v, by omega, by omega, v0, v1, by go_num, rfl, Lib.hid (by
          obtain ⟨j, hj⟩ : ∃ j, many.toNat = j + 1 := ⟨many.toNat - 1, by omega⟩
          rw [HU.out, hj, show (many - 1).toNat = j by omega]
          simp only [addB]
          rw [if_pos ha, HV.out]), HM2, HB2⟩
        case measure => simp [intOf]; omega
      · go_wp2_with go_in
        go_ret
        refine ⟨ret_int ?_, HB.out⟩
        obtain ⟨j, hj⟩ : ∃ j, many.toNat = j + 1 := ⟨many.toNat - 1, by omega⟩
        rw [HU.out, hj]
        simp only [addB]
        rw [if_neg (by omega)]
    · go_wp2_with go_in
      go_ret
      refine ⟨ret_int ?_, HB.out⟩
      rw [HU.out, show many.toNat = 0 by omega]
      rfl

theorem impl_AddBusiness.calls (A0 : Option Addr) (c0 : Nat) (l0 : List Int) (a1 : Int) (a2 : Int) (r : Int) (w : World) (hr0 : Kd.C (Kd.int .i64) w A0 l0.length l0) (hc0 : l0.length ≤ c0) (h : impl_AddBusiness.f l0 a1 a2 = some r) :
    Calls Tryd.prog 30 #[.slice A0 l0.length c0, .int .i64 a1, .int .i64 a2] w fun e w' => e = .returned (.int .i64 r) ∧ Below w.heap.size w w' := by
  obtain rfl : addDays l0 a1 a2 = r := Option.some.inj h
  unfold addDays
  by_cases c : HolOk l0 ∧ 0 ≤ a1 ∧ a1 ≤ 36524 ∧ 0 ≤ a2 ∧ a2 ≤ 30
  · rw [if_pos ⟨holOk_yes c.1, dayV_yes c.2.1 c.2.2.1, c.2.2.2⟩]
    exact add_good A0 c0 l0 a1 a2 w hr0 c.1 c.2.1 c.2.2.1 c.2.2.2.1 c.2.2.2.2
  · rw [if_neg (fun e => c ⟨holOk_iff.1 e.1, (dayV_iff.1 e.2.1).1, (dayV_iff.1 e.2.1).2, e.2.2⟩)]
    exact add_bad A0 c0 l0 a1 a2 w hr0 c

theorem bet_bad (A0 : Option Addr) (c0 : Nat) (l0 : List Int) (a1 a2 : Int) (w : World) (hr0 : Kd.C (Kd.int .i64) w A0 l0.length l0) (hbad : ¬ (HolOk l0 ∧ 0 ≤ a1 ∧ a1 ≤ 36524 ∧ 0 ≤ a2 ∧ a2 ≤ 36524 ∧ 0 ≤ a2 - a1 ∧ a2 - a1 ≤ 4000)) :
    Calls Tryd.prog 25 #[.slice A0 l0.length c0, .int .i64 a1, .int .i64 a2] w fun e w' => e = .returned (.int .i64 (-1)) ∧ Below w.heap.size w w' := by
  have HR := Lib.hid hr0
  clear hr0
  by_cases H : HolOk l0
  · by_cases d0 : 0 ≤ a1
    · by_cases d1 : a1 ≤ 36524
      · by_cases m0 : 0 ≤ a2
        · by_cases m1 : a2 ≤ 36524
          · by_cases s0 : 0 ≤ a2 - a1
            · have s1 : decide (a2 - a1 ≤ 4000) = false := decide_eq_false (fun e => hbad ⟨H, d0, d1, m0, m1, s0, e⟩)
              clear hbad
              go_enter Tryd.func25, Tryd.ntmps25
              go_wp2_with (first | (go_at_call 45; (with_reducible refine (hol_yes A0 c0 l0 _ HR.out H).mono ?_); rintro e w1 ⟨B, rfl, HM, HB⟩) | go_in)
              go_ret
              exact ⟨rfl, HB.out⟩
            · clear hbad
              go_enter Tryd.func25, Tryd.ntmps25
              go_wp2_with (first | (go_at_call 45; (with_reducible refine (hol_yes A0 c0 l0 _ HR.out H).mono ?_); rintro e w1 ⟨B, rfl, HM, HB⟩) | go_in)
              go_ret
              exact ⟨rfl, HB.out⟩
          · clear hbad
            go_enter Tryd.func25, Tryd.ntmps25
            go_wp2_with (first | (go_at_call 45; (with_reducible refine (hol_yes A0 c0 l0 _ HR.out H).mono ?_); rintro e w1 ⟨B, rfl, HM, HB⟩) | go_in)
            go_ret
            exact ⟨rfl, HB.out⟩
        · clear hbad
          go_enter Tryd.func25, Tryd.ntmps25
          go_wp2_with (first | (go_at_call 45; (with_reducible refine (hol_yes A0 c0 l0 _ HR.out H).mono ?_); rintro e w1 ⟨B, rfl, HM, HB⟩) | go_in)
          go_ret
          exact ⟨rfl, HB.out⟩
      · clear hbad
        go_enter Tryd.func25, Tryd.ntmps25
        go_wp2_with (first | (go_at_call 45; (with_reducible refine (hol_yes A0 c0 l0 _ HR.out H).mono ?_); rintro e w1 ⟨B, rfl, HM, HB⟩) | go_in)
        go_ret
        exact ⟨rfl, HB.out⟩
    · clear hbad
      go_enter Tryd.func25, Tryd.ntmps25
      go_wp2_with (first | (go_at_call 45; (with_reducible refine (hol_yes A0 c0 l0 _ HR.out H).mono ?_); rintro e w1 ⟨B, rfl, HM, HB⟩) | go_in)
      go_ret
      exact ⟨rfl, HB.out⟩
  · clear hbad
    go_enter Tryd.func25, Tryd.ntmps25
    go_wp2_with (first | (go_at_call 45; (with_reducible refine (hol_not A0 c0 l0 _ HR.out H).mono ?_); rintro e w1 ⟨rfl, HB⟩) | go_in)
    go_ret
    exact ⟨rfl, HB.out⟩

theorem span_yes (a1 a2 : Int) (w : World) (d0 : 0 ≤ a1) (d1 : a1 ≤ 36524) (m0 : 0 ≤ a2) (m1 : a2 ≤ 36524) (s0 : 0 ≤ a2 - a1) (s1 : a2 - a1 ≤ 4000) :
    Calls Tryd.prog 49 #[.int .i64 a1, .int .i64 a2] w fun e w' => e = .returned (.bool true) ∧ w = w' := by
  go_enter Tryd.func49, Tryd.ntmps49
  go_wp2
  go_ret
  exact ⟨rfl, rfl⟩

set_option maxRecDepth 100000 in
set_option maxHeartbeats 2000000 in
theorem bet_good (A0 : Option Addr) (c0 : Nat) (l0 : List Int) (a1 a2 : Int) (w : World) (hr0 : Kd.C (Kd.int .i64) w A0 l0.length l0) (H : HolOk l0) (d0 : 0 ≤ a1) (d1 : a1 ≤ 36524) (m0 : 0 ≤ a2) (m1 : a2 ≤ 36524) (s0 : 0 ≤ a2 - a1) (s1 : a2 - a1 ≤ 4000) :
    Calls Tryd.prog 25 #[.slice A0 l0.length c0, .int .i64 a1, .int .i64 a2] w fun e w' => e = .returned (.int .i64 (cnt l0 (a2 - a1).toNat a1)) ∧ Below w.heap.size w w' := by
  have HR := Lib.hid hr0
  clear hr0
  obtain ⟨U, hU⟩ : ∃ U, U = cnt l0 (a2 - a1).toNat a1 := ⟨_, rfl⟩
  rw [← hU]
  have HU := Lib.hid hU
  clear hU
  go_enter Tryd.func25, Tryd.ntmps25
  go_wp2_with (first | (go_at_call 45; (with_reducible refine (hol_yes A0 c0 l0 _ HR.out H).mono ?_); rintro e w1 ⟨B, rfl, HM, HB⟩) | (go_at_call 49; (with_reducible refine (span_yes a1 a2 _ d0 d1 m0 m1 s0 s1).mono ?_); rintro e w2 ⟨rfl, rfl⟩) | go_in)
  go_loopw [9, 10] (fun m a wr => ∃ many n : Int, 0 ≤ many ∧ many ≤ 100000 - (a2 - n) ∧ a1 ≤ n ∧ n ≤ a2 ∧ m = .int .i64 many ∧ a = .int .i64 n ∧ Hid (U = many + cnt l0 (a2 - n).toNat n) ∧ Hid (HolM wr B l0) ∧ Hid (Below w.heap.size w wr)) (fun _ a _ => (a2 - intOf a).toNat)
  case atStart => exact ⟨0, a1, by omega, by omega, by omega, by omega, rfl, rfl, Lib.hid (by rw [HU.out]; omega), HM, HB⟩
  case round =>
    clear HU HM HB
    obtain ⟨many, n, n0, n1, t0, t1, rfl, rfl, HU, HM, HB⟩ := hrel
    by_cases hn : n < a2
    · cases ho : openB l0 n with
      | true =>
        have HO := Lib.hid ho
        clear ho
        go_wp2_with (first | (go_at_call 50; (with_reducible refine (open_yes l0 B n _ HM.out (by omega) (by omega) HO.out).mono ?_); rintro e w2 ⟨rfl, hb2⟩; have HB2 := Lib.hid (below_then HB.out HB.out.size hb2); have HM2 := Lib.hid (HM.out.below hb2); clear hb2 HB HM) | go_in)
        go_roundw
        case rel => exact ⟨many + 1, n + 1, by omega, by omega, by omega, by omega, rfl, rfl, Lib.hid (by
          obtain ⟨j, hj⟩ : ∃ j, (a2 - n).toNat = j + 1 := ⟨(a2 - n).toNat - 1, by omega⟩
          rw [HU.out, hj, show (a2 - (n + 1)).toNat = j by omega]
          simp only [cnt]
          rw [if_pos HO.out]
          omega), HM2, HB2⟩
        case measure => simp [intOf]; omega
      | false =>
        have HO := Lib.hid ho
        clear ho
        go_wp2_with (first | (go_at_call 50; (with_reducible refine (open_no l0 B n _ HM.out (by omega) (by omega) HO.out).mono ?_); rintro e w2 ⟨rfl, hb2⟩; have HB2 := Lib.hid (below_then HB.out HB.out.size hb2); have HM2 := Lib.hid (HM.out.below hb2); clear hb2 HB HM) | go_in)
        go_roundw
        case rel => exact ⟨many, n + 1, by omega, by omega, by omega, by omega, rfl, rfl, Lib.hid (by
          obtain ⟨j, hj⟩ : ∃ j, (a2 - n).toNat = j + 1 := ⟨(a2 - n).toNat - 1, by omega⟩
          rw [HU.out, hj, show (a2 - (n + 1)).toNat = j by omega]
          simp only [cnt]
          rw [if_neg (by rw [HO.out]; exact Bool.false_ne_true)]
          omega), HM2, HB2⟩
        case measure => simp [intOf]; omega
    · go_wp2_with go_in
      go_ret
      refine ⟨ret_int ?_, HB.out⟩
      rw [HU.out, show (a2 - n).toNat = 0 by omega]
      simp [cnt]

theorem impl_BusinessBetween.calls (A0 : Option Addr) (c0 : Nat) (l0 : List Int) (a1 : Int) (a2 : Int) (r : Int) (w : World) (hr0 : Kd.C (Kd.int .i64) w A0 l0.length l0) (hc0 : l0.length ≤ c0) (h : impl_BusinessBetween.f l0 a1 a2 = some r) :
    Calls Tryd.prog 25 #[.slice A0 l0.length c0, .int .i64 a1, .int .i64 a2] w fun e w' => e = .returned (.int .i64 r) ∧ Below w.heap.size w w' := by
  obtain rfl : between l0 a1 a2 = r := Option.some.inj h
  unfold between
  by_cases c : HolOk l0 ∧ 0 ≤ a1 ∧ a1 ≤ 36524 ∧ 0 ≤ a2 ∧ a2 ≤ 36524 ∧ 0 ≤ a2 - a1 ∧ a2 - a1 ≤ 4000
  · obtain ⟨c1, c2, c3, c4, c5, c6, c7⟩ := c
    rw [if_pos ⟨holOk_yes c1, dayV_yes c2 c3, dayV_yes c4 c5, by omega, by omega⟩]
    exact bet_good A0 c0 l0 a1 a2 w hr0 c1 c2 c3 c4 c5 c6 c7
  · rw [if_neg (fun e => c ⟨holOk_iff.1 e.1, (dayV_iff.1 e.2.1).1, (dayV_iff.1 e.2.1).2, (dayV_iff.1 e.2.2.1).1, (dayV_iff.1 e.2.2.1).2, by omega, by omega⟩)]
    exact bet_bad A0 c0 l0 a1 a2 w hr0 c
end Go.Proofs.YtnfcljokgnebmaaDoor.Q

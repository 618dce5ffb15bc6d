/-
  An argument that is a slice of structs of two numbers, opened: its elements as pairs of numbers. Conditions: they stand in each theorem.
-/
import Derived.Test.YtbofmoelmhbpoaaDoorQx0
import Derived.Test.YtbofmoelmhbpoaaDoorWa
import Derived.Deep.SlicePairs
namespace Go.Proofs.YtbofmoelmhbpoaaDoor.OpenS
open Go.RowKit Go.ChangeShapes Go.WideShapes Go.Proofs.YtbofmoelmhbpoaaDoor.Q Go.Proofs.YtbofmoelmhbpoaaDoorW.PrintWords
set_option linter.unusedVariables false

def num : Value → Int
  | .int _ n => n
  | _ => 0
/-- A slice of pairs of numbers, at its address. -/
def IsPairs (W : World) (a : Option Addr) (len cap : Nat) (zs : List (Int × Int)) : Prop :=
  zs.length = len ∧ len ≤ cap ∧ len ≤ 9223372036854775807 ∧ (0 < len → ∃ x, a = some x ∧ ∀ i, i < len → W.cell? (x.add (i * 2)) = some (.int .i64 (zs.getD i (0, 0)).1) ∧ W.cell? (x.add (i * 2 + 1)) = some (.int .i64 (zs.getD i (0, 0)).2)) ∧
  ∀ z ∈ zs, (Lit.int .i64 z.1).wf = true ∧ (Lit.int .i64 z.2).wf = true
theorem open_pairs {H : Type} {enc : TypeId × Value → H} {P : Program} {W : World} {t e : TypeId} {f0 f1 : Field} {a : Option Addr} {len cap : Nat} {d : DataW H} {p : List MemPlace}
    (ht : P.underlying t = some (.slice e)) (he : P.underlying e = some (.struct #[f0, f1])) (ce : P.cellsOf e = 2) (o0 : f0.offset = 0) (o1 : f1.offset = 1) (c0 : P.cellsOf f0.type = 1) (c1 : P.cellsOf f1.type = 1)
    (u0 : P.underlying f0.type = some (.int .i64)) (u1 : P.underlying f1.type = some (.int .i64)) (h : DataW.Trod enc P W 0 (fun _ => true) true t (.slice a len cap) d p) : ∃ zs, IsPairs W a len cap zs := by
  obtain ⟨fuel, hf⟩ := h
  rcases Go.Deep.open_slice_pairs ht he ce o0 o1 c0 c1 hf with ⟨hcs, _⟩ | ⟨x, l, c, m, n, V0, V1, D0, D1, P0, P1, hcs, _, hl, hm, hmm, _, hel⟩
  · simp [Value.cells] at hcs
    obtain ⟨rfl, rfl, rfl⟩ := hcs
    exact ⟨[], rfl, Nat.le_refl _, by omega, fun h => absurd h (by omega), fun z hz => by simp at hz⟩
  · simp [Value.cells] at hcs
    obtain ⟨rfl, rfl, rfl⟩ := hcs
    have hmc : m = cap := by simpa using hmm
    subst hmc
    have key : ∀ i, i < m → V0 i = .int .i64 (num (V0 i)) ∧ V1 i = .int .i64 (num (V1 i)) ∧ (Lit.int .i64 (num (V0 i))).wf = true ∧ (Lit.int .i64 (num (V1 i))).wf = true := by
      intro i hi
      obtain ⟨_, _, h0, h1⟩ := hel i hi
      obtain ⟨n0, e0, _, w0⟩ := DataW.trod_int u0 h0
      obtain ⟨n1, e1, _, w1⟩ := DataW.trod_int u1 h1
      simp only [List.cons.injEq, and_true] at e0 e1
      rw [e0, e1]
      exact ⟨rfl, rfl, w0, w1⟩
    have hg : ∀ i, i < len → ((List.range len).map fun i => (num (V0 i), num (V1 i))).getD i (0, 0) = (num (V0 i), num (V1 i)) := by
      intro i hi
      simp [List.getD, hi]
    refine ⟨(List.range len).map fun i => (num (V0 i), num (V1 i)), by simp, hl, by unfold maxLen at hm; omega, fun _ => ⟨x, rfl, fun i hi => ?_⟩, fun z hz => ?_⟩
    · obtain ⟨e0, e1, _⟩ := hel i (by omega)
      obtain ⟨k0, k1, _⟩ := key i (by omega)
      rw [hg i hi, e0, e1]
      exact ⟨congrArg some k0, congrArg some k1⟩
    · obtain ⟨i, hi, rfl⟩ := List.mem_map.1 hz
      obtain ⟨_, _, w0, w1⟩ := key i (by have := List.mem_range.1 hi; omega)
      exact ⟨w0, w1⟩
theorem IsPairs.reads {W : World} {a : Option Addr} {len cap : Nat} {zs : List (Int × Int)} (h : IsPairs W a len cap zs) : Kd.C (Kd.pair (Kd.int .i64) (Kd.int .i64)) W a len zs := by
  obtain ⟨hl, _, h63, hc, _⟩ := h
  refine ⟨hl, h63, fun hn => ?_⟩
  obtain ⟨x, rfl, hx⟩ := hc hn
  refine ⟨x, rfl, fun j q hj => ⟨[.int .i64 q.1, .int .i64 q.2], rfl, ⟨[.int .i64 q.1], [.int .i64 q.2], rfl, rfl, rfl⟩, fun i u hu => ?_⟩⟩
  obtain ⟨hjl, hq⟩ := List.getElem?_eq_some_iff.1 hj
  have hd : zs.getD j (0, 0) = q := by rw [List.getD_eq_getElem?_getD, hj]; rfl
  obtain ⟨e0, e1⟩ := hx j (by omega)
  rw [hd] at e0 e1
  match i, hu with
  | 0, hu =>
    obtain rfl : Value.int .i64 q.1 = u := by simpa using hu
    exact e0
  | 1, hu =>
    obtain rfl : Value.int .i64 q.2 = u := by simpa using hu
    exact e1
  | i + 2, hu => simp at hu
def mk (p : Int × Int) : S63 := ⟨p.1, p.2⟩
theorem reads_S {W : World} {a : Option Addr} {len cap : Nat} {zs : List (Int × Int)} (h : IsPairs W a len cap zs) : Kd.C k63 W a (zs.map mk).length (zs.map mk) := by
  obtain ⟨h1, h2, h3⟩ := h.reads
  refine ⟨rfl, by rw [List.length_map, h1]; exact h2, fun hn => ?_⟩
  obtain ⟨ad, e, hc⟩ := h3 (by rw [List.length_map, h1] at hn; exact hn)
  refine ⟨ad, e, fun j q hj => ?_⟩
  rw [List.getElem?_map] at hj
  obtain ⟨q', hq, rfl⟩ := Option.map_eq_some_iff.1 hj
  obtain ⟨c, g1, g2, g3⟩ := hc j q' hq
  exact ⟨c, g1, g2, g3⟩
end Go.Proofs.YtbofmoelmhbpoaaDoor.OpenS

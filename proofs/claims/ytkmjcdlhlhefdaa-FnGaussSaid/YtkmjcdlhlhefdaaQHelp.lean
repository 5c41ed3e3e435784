/- Words for the rows of this seat's claims: whole numbers of 64 bits; a slice of slices of whole numbers, or a struct of whole numbers, that comes in. -/
import Derived.Test.YtkmjcdlhlhefdaaQWMore
import Derived.Test.YtkmjcdlhlhefdaaQWSized
import Derived.Deep.Matrix
import Derived.Lib.SmallJoins
import Derived.SizedLaws
import Derived.ChangeOld
import Derived.ProofKit
import Derived.OpenShut
namespace Go.Proofs.Ytkmjcdlhlhefdaa.Help
open Go.RowKit Go.ChangeShapes Go.WideShapes Go.Joins Go.Deep Go.Proofs.YtkmjcdlhlhefdaaW.PrintWords
set_option linter.unusedVariables false
/-- A whole number of 64 bits. -/
def I64 (a : Int) : Prop := -9223372036854775808 ≤ a ∧ a ≤ 9223372036854775807
theorem i64_of_wf {a : Int} (h : (Lit.int .i64 a).wf = true) : I64 a := by
  simp only [Lit.wf, Bool.and_eq_true, decide_eq_true_eq] at h
  exact h
theorem i64_le {a : Int} (h : I64 a) : a ≤ 9223372036854775807 := h.2
theorem i64_ge {a : Int} (h : I64 a) : -9223372036854775808 ≤ a := h.1
/-- A slice of whole numbers that came in. -/
theorem ints_in {H : Type} {enc : TypeId × Value → H} {P : Program} {W : World} {t e : TypeId} {a : Option Addr} {len cap : Nat} {d : DataW H} {ps : List MemPlace}
    (ht : P.underlying t = some (.slice e)) (he : P.underlying e = some (.int .i64)) (hc : P.cellsOf e = 1) (h : DataW.Trod enc P W 0 (fun _ => true) true t (.slice a len cap) d ps) :
    ∃ l : List Int, len = l.length ∧ Kd.C (Kd.int .i64) W a l.length l ∧ l.length ≤ cap ∧ l.length ≤ maxLen ∧ ∀ x ∈ l, I64 x := by
  have key : ∃ zs : List Int, (a = none ∧ len = 0 ∧ cap = 0 ∧ zs = []) ∨ ∃ x, a = some x ∧ len ≤ cap ∧ cap ≤ maxLen ∧ zs.length = cap ∧ (∀ i, i < zs.length → W.cell? (x.add i) = some (.int .i64 (zs.getD i 0))) ∧ ∀ n ∈ zs, (Lit.int .i64 n).wf = true := by
    obtain ⟨fuel, hf⟩ := h
    rcases open_ints ht he hc hf with ⟨hcs, _⟩ | ⟨x, l, c, zs, hcs, _, hl, hm, hz, _, hcell, hwz⟩
    · simp [Value.cells] at hcs
      obtain ⟨rfl, rfl, rfl⟩ := hcs
      exact ⟨[], .inl ⟨rfl, rfl, rfl, rfl⟩⟩
    · simp [Value.cells] at hcs
      obtain ⟨rfl, rfl, rfl⟩ := hcs
      exact ⟨zs, .inr ⟨_, rfl, hl, hm, by simpa using hz, hcell, hwz⟩⟩
  obtain ⟨zs, hz⟩ := key
  obtain ⟨l, hl, hr, hm, hw, hc'⟩ := ReadsInt.ofRowC hz
  exact ⟨l, hl, Kd.C_of_reads (d := (0 : Int)) (h1 := fun _ => rfl) hr, hc', hm, fun x hx => i64_of_wf (hw x hx)⟩
/-- A slice of slices of whole numbers that came in. -/
theorem rows_in {H : Type} {enc : TypeId × Value → H} {P : Program} {W : World} {t e q : TypeId} {a : Option Addr} {len cap : Nat} {d : DataW H} {ps : List MemPlace}
    (ht : P.underlying t = some (.slice e)) (he : P.underlying e = some (.slice q)) (hq : P.underlying q = some (.int .i64)) (ce : P.cellsOf e = 1) (cq : P.cellsOf q = 1)
    (h : DataW.Trod enc P W 0 (fun _ => true) true t (.slice a len cap) d ps) :
    ∃ l : List (List Int), len = l.length ∧ Kd.C (Kd.slice q (Kd.int .i64)) W a l.length l ∧ l.length ≤ cap ∧ l.length ≤ maxLen ∧ (∀ r ∈ l, r.length ≤ maxLen) ∧ ∀ r ∈ l, ∀ x ∈ r, I64 x := by
  obtain ⟨fuel, hf⟩ := h
  rcases open_int_rows ht he hq ce cq hf with ⟨hcs, _⟩ | ⟨ad, len', cap', A, L, C, Z, hcs, _, hl, hm, _, hx⟩
  · simp [Value.cells] at hcs
    obtain ⟨rfl, rfl, rfl⟩ := hcs
    exact ⟨[], rfl, ⟨rfl, by simp, fun h => absurd h (by simp)⟩, by simp, by simp, by simp, by simp⟩
  · simp [Value.cells] at hcs
    obtain ⟨rfl, rfl, rfl⟩ := hcs
    have hin : ∀ r, r ∈ (List.range len).map (fun i => (Z i).take (L i)) → ∃ i, i < len ∧ r = (Z i).take (L i) := by
      intro r hr
      obtain ⟨i, hi, rfl⟩ := List.mem_map.1 hr
      exact ⟨i, List.mem_range.1 hi, rfl⟩
    have hmm : maxLen = 9223372036854775807 := rfl
    refine ⟨(List.range len).map (fun i => (Z i).take (L i)), by simp, ⟨rfl, by simp; omega, fun _ => ⟨ad, rfl, fun j p hj => ?_⟩⟩, by simpa using hl, by simp; omega, ?_, ?_⟩
    · obtain ⟨hjl, hjp⟩ := List.getElem?_eq_some_iff.1 hj
      have hjl' : j < len := by simpa using hjl
      simp at hjp
      subst hjp
      obtain ⟨hc0, hLC, hCm, hZ, hw, hn0, hcells⟩ := hx j (by omega)
      have hlen : ((Z j).take (L j)).length = L j := by rw [List.length_take]; omega
      refine ⟨[.slice (A j) (L j) (C j)], rfl, ⟨A j, C j, by rw [hlen], by omega, by omega, by omega, fun hpos => ?_⟩, fun i u hu => ?_⟩
      · cases hA : A j with
        | none => have := hn0 hA; omega
        | some a' =>
          obtain ⟨_, hc1⟩ := hcells a' hA
          refine ⟨a', rfl, fun j' p' hj' => ?_⟩
          obtain ⟨hjl2, hjp2⟩ := List.getElem?_eq_some_iff.1 hj'
          rw [hlen] at hjl2
          refine ⟨[.int .i64 p'], rfl, rfl, fun i u hu => ?_⟩
          cases i with
          | zero =>
            have hu' : Value.int .i64 p' = u := by simpa using hu
            subst hu'
            have h3 := hc1 j' (by omega)
            rw [List.getElem_take] at hjp2
            rw [List.getD_eq_getElem?_getD, List.getElem?_eq_getElem (by omega), hjp2] at h3
            simpa [Kd.int, Kd.scalar] using h3
          | succ i => simp at hu
      · cases i with
        | zero =>
          have hu' : Value.slice (A j) (L j) (C j) = u := by simpa using hu
          subst hu'
          simpa [Kd.slice] using hc0
        | succ i => simp at hu
    · intro r hr
      obtain ⟨i, hi, rfl⟩ := hin r hr
      obtain ⟨hc0, hLC, hCm, hZ, _⟩ := hx i (by omega)
      rw [List.length_take]
      omega
    · intro r hr x hxr
      obtain ⟨i, hi, rfl⟩ := hin r hr
      obtain ⟨hc0, hLC, hCm, hZ, hw, _⟩ := hx i (by omega)
      exact i64_of_wf (hw x (List.mem_of_mem_take hxr))
end Go.Proofs.Ytkmjcdlhlhefdaa.Help

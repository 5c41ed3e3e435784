/- The program's FlipEdge answers as the reference's, for all arguments; no condition. -/
import Derived.Test.YtcligopbieaceaaWlFnExactFlipEdge
import Derived.Test.YtcligopbieaceaaLFlipE
import Derived.Test.YtcligopbieaceaaLMarkSS
namespace Go.Proofs.Ytcligopbieaceaa.Pure
open Go.RowKit Go.Proofs.Ytcligopbieaceaa.P Go.Proofs.Ytcligopbieaceaa.Help Go.Proofs.Ytcligopbieaceaa.L
theorem FnExactFlipEdge : ∀ (l0 : List (List Int)) (a1 : Int), l0.length ≤ 9223372036854775807 → (∀ r ∈ l0, r.length ≤ 9223372036854775807) → (∀ r ∈ l0, ∀ x ∈ r, I64 x) → I64 a1 → ∃ k, laws_FnExactFlipEdge.f k l0 a1 = some true := by
  intro t e h1 h2 _ _
  refine ⟨10000000, ?_⟩
  unfold laws_FnExactFlipEdge.f
  obtain ⟨z, hz, hb⟩ := szIntSS_f t h1 h2 1048576 (by decide) (by decide) 10000000 (by decide)
  rw [hz, Option.bind_some]
  by_cases h : z < 0
  · rw [if_pos h]
  · obtain ⟨b1, b2, b3⟩ := hb (by omega)
    obtain ⟨⟨o, b⟩, hp⟩ : ∃ p, flipE t e = p := ⟨_, rfl⟩
    obtain ⟨o1, o2, o3⟩ := flipE_bd t b1 e
    rw [hp] at o1 o2 o3
    dsimp only at o1 o2 o3
    have e0 := toIntSS_f t b1 b2 10000000 (by decide)
    have e1 := eqIntSS_self o o1 o2 10000000 (by decide)
    have e2 := markIntSS_f o (by omega) o2 o3 10000000 (by decide)
    have e3 := heldIntSS_f o (by omega) o2 o3 10000000 (by decide)
    have e4 := eqIntSS_self t b1 b2 10000000 (by decide)
    have e5 := markIntSS_f t (by omega) b2 (by omega) 10000000 (by decide)
    have n : ¬ (1 + (tot o : Int) < 0) := by omega
    have n2 : ¬ (1 + (tot t : Int) < 0) := by omega
    have f1 := spec_flipE t b1 b2 e 10000000 (by decide)
    have f2 := impl_flipE t b1 b2 e 10000000 (by decide)
    rw [hp] at f1 f2
    rw [if_neg h]
    simp only [Option.bind_some, e0, e1, e2, e3, e4, e5, f1, f2, if_true, if_neg n, if_neg n2]
end Go.Proofs.Ytcligopbieaceaa.Pure

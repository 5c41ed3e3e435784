/- The program's ArcsAt answers as the reference's, for all arguments; no condition. -/
import Derived.Test.YtcligopbieaceaaPx34
import Derived.Test.YtcligopbieaceaaLArcs
namespace Go.Proofs.Ytcligopbieaceaa.Pure
open Go.RowKit Go.Proofs.Ytcligopbieaceaa.P Go.Proofs.Ytcligopbieaceaa.Help Go.Proofs.Ytcligopbieaceaa.L
theorem FnExactArcsAt : ∀ (l0 : List (List Int)) (l1 : List Int) (a2 : Int) (a3 : Int), l0.length ≤ 9223372036854775807 → (∀ r ∈ l0, r.length ≤ 9223372036854775807) → (∀ r ∈ l0, ∀ x ∈ r, I64 x) → l1.length ≤ 9223372036854775807 → (∀ x ∈ l1, I64 x) → I64 a2 → I64 a3 → ∃ k, laws_FnExactArcsAt.f k l0 l1 a2 a3 = some true := by
  intro t x i j h1 h2 _ _ _ _ _
  refine ⟨7000000, ?_⟩
  unfold laws_FnExactArcsAt.f
  by_cases hx : (x.length : Int) > 1048576
  · rw [if_pos hx]
  · obtain ⟨z, hz, hb⟩ := szIntSS_f t h1 h2 1048576 (by decide) (by decide) 7000000 (by decide)
    rw [if_neg hx, hz, Option.bind_some]
    by_cases h : z < 0
    · rw [if_pos h]
    · obtain ⟨b1, b2⟩ := hb (by omega)
      rw [if_neg h, toIntSS_f t b1 b2 _ (by decide), Option.bind_some, toIntS_f x (by omega) _ (by decide), Option.bind_some, spec_arcsR t b1 x i j _ (by decide), Option.bind_some, Option.bind_some, Option.bind_some, impl_arcsR t b1 x i j _ (by decide), Option.bind_some, if_pos rfl, Option.bind_some, eqIntSS_self t b1 b2 _ (by decide), Option.bind_some, if_pos rfl, Option.bind_some, eqIntS_self x (by omega) _ (by decide)]
      rfl
end Go.Proofs.Ytcligopbieaceaa.Pure

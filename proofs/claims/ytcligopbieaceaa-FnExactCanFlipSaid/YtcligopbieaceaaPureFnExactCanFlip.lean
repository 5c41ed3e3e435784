/- The program's CanFlip answers as the reference's, for all arguments; no condition. -/
import Derived.Test.YtcligopbieaceaaPx27
import Derived.Test.YtcligopbieaceaaLSide
namespace Go.Proofs.Ytcligopbieaceaa.Pure
open Go.RowKit Go.Proofs.Ytcligopbieaceaa.P Go.Proofs.Ytcligopbieaceaa.Help Go.Proofs.Ytcligopbieaceaa.L
theorem FnExactCanFlip : ∀ (l0 : List (List Int)) (a1 : Int), l0.length ≤ 9223372036854775807 → (∀ r ∈ l0, r.length ≤ 9223372036854775807) → (∀ r ∈ l0, ∀ x ∈ r, I64 x) → I64 a1 → ∃ k, laws_FnExactCanFlip.f k l0 a1 = some true := by
  intro t e h1 h2 _ _
  refine ⟨7000000, ?_⟩
  unfold laws_FnExactCanFlip.f
  obtain ⟨z, hz, hb⟩ := szIntSS_f t h1 h2 1048576 (by decide) (by decide) 7000000 (by decide)
  rw [hz, Option.bind_some]
  by_cases h : z < 0
  · rw [if_pos h]
  · obtain ⟨b1, b2⟩ := hb (by omega)
    rw [if_neg h, toIntSS_f t b1 b2 _ (by decide), Option.bind_some, spec_can t b1 e _ (by decide), Option.bind_some, Option.bind_some, impl_can t b1 b2 e _ (by decide), Option.bind_some, if_neg (by simp), Option.bind_some, eqIntSS_self t b1 b2 _ (by decide)]
    rfl
end Go.Proofs.Ytcligopbieaceaa.Pure

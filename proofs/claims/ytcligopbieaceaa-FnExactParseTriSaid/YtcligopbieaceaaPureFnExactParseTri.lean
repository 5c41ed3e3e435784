/- The program's ParseTri answers as the reference's, for all arguments; no condition. -/
import Derived.Test.YtcligopbieaceaaWlFnExactParseTri
import Derived.Test.YtcligopbieaceaaLParse
namespace Go.Proofs.Ytcligopbieaceaa.Pure
open Go.RowKit Go.Proofs.Ytcligopbieaceaa.P Go.Proofs.Ytcligopbieaceaa.Help Go.Proofs.Ytcligopbieaceaa.L
theorem FnExactParseTri : ∀ (a0 : ByteArray), a0.size ≤ 140737488351232 → ∃ k, laws_FnExactParseTri.f k a0 = some true := by
  intro x _
  refine ⟨10000000, ?_⟩
  unfold laws_FnExactParseTri.f
  by_cases h : (x.size : Int) > 1048576
  · rw [if_pos h]
  · have hx : x.size ≤ 1048576 := by omega
    obtain ⟨⟨o, b⟩, hp⟩ : ∃ p, parseT x = p := ⟨_, rfl⟩
    have hb : o.length ≤ 1048576 ∧ (∀ r ∈ o, r.length ≤ 1048576) ∧ tot o ≤ 2000000 := by
      rcases parseT_cases x hx with h2 | ⟨o', h2, _, h3, h4, _⟩
      · rw [hp] at h2
        injection h2 with h2 _
        subst h2
        simp [tot]
      · rw [hp] at h2
        injection h2 with h2 _
        subst h2
        have := tot_three o h4
        exact ⟨by omega, fun r hr => by have := h4 r hr; omega, by omega⟩
    obtain ⟨b1, b2, b3⟩ := hb
    rw [if_neg h, spec_parse x hx _ (by decide), impl_parse x hx _ (by decide), hp]
    have e1 := eqIntSS_self o b1 b2 10000000 (by decide)
    have e2 := markIntSS_f o (by omega) b2 b3 10000000 (by decide)
    have e3 := heldIntSS_f o (by omega) b2 b3 10000000 (by decide)
    have n : ¬ (1 + (tot o : Int) < 0) := by omega
    simp only [Option.bind_some, e1, e2, e3, if_true, if_neg n]
end Go.Proofs.Ytcligopbieaceaa.Pure

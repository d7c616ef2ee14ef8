/- The plain law of ChainChecks: the printed function answers true for every chain. -/
import Derived.Test.YteepdedbldnccaaChain
import Derived.Test.YteepdedbldnccaaPx23
namespace Go.Proofs.Yteepdedbldnccaa.Pure
set_option linter.unusedVariables false
set_option linter.unusedSimpArgs false
open Go.RowKit Go.Proofs.YteepdedbldnccaaW.PrintWords Go.Proofs.YteepdedbldnccaaW.PrintLast Go.Proofs.YteepdedbldnccaaW.PrintMore Go.Proofs.Yteepdedbldnccaa
theorem ChainChecks (l0_0 : List (P.S48)) (a0_1 : Int) (w0_0 : ∀ x ∈ l0_0, ok48 x) (y0_0 : l0_0.length ≤ 9223372036854775807) (w0_1 : I64 a0_1) : ∃ k, P.skiarealaw16_ChainChecks.f k l0_0 a0_1 = some true := by
  obtain ⟨k, hk⟩ : ∃ k : Nat, k = 2000 := ⟨_, rfl⟩
  refine ⟨k, ?_⟩
  unfold P.skiarealaw16_ChainChecks.f
  rw [alive_at (by omega), Option.bind_some, if_pos rfl]
  by_cases h : l0_0.length > 50
  · rw [if_pos (by omega)]
  · rw [if_neg (by omega), right_at (by omega) a0_1 (by omega), Option.bind_some, rright_at (by omega) a0_1 (by omega), Option.bind_some]
    simp
end Go.Proofs.Yteepdedbldnccaa.Pure

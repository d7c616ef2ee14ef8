/- The plain law of ChainTakes: the printed function answers true for every chain and person. -/
import Derived.Test.YteepdedbldnccaaChainKey
import Derived.Test.YteepdedbldnccaaPx31
namespace Go.Proofs.Yteepdedbldnccaa.Pure
set_option linter.unusedVariables false
set_option linter.unusedSimpArgs false
open Go.RowKit Go.Proofs.YteepdedbldnccaaW.PrintWords Go.Proofs.YteepdedbldnccaaW.PrintLast Go.Proofs.YteepdedbldnccaaW.PrintMore Go.Proofs.Yteepdedbldnccaa
theorem takeR_length (l : List P.S48) (key who : Int) : (takeR l key who).1.length ≤ l.length := by
  unfold takeR; repeat' split
  all_goals simp
theorem ChainTakes (l0_0 : List (P.S48)) (a0_1 : Int) (a1 : Int) (w0_0 : ∀ x ∈ l0_0, ok48 x) (y0_0 : l0_0.length ≤ 9223372036854775807) (w0_1 : I64 a0_1) (w1 : I64 a1) : ∃ k, P.skiarealaw16_ChainTakes.f k l0_0 a0_1 a1 = some true := by
  obtain ⟨k, hk⟩ : ∃ k : Nat, k = 2000 := ⟨_, rfl⟩
  refine ⟨k, ?_⟩
  unfold P.skiarealaw16_ChainTakes.f
  rw [alive_at (by omega), Option.bind_some, if_pos rfl]
  by_cases hl : l0_0.length > 32
  · rw [rright_long hl, Option.bind_some, if_neg (by decide)]
  rw [rright_at (by omega) a0_1 (by omega), Option.bind_some]
  by_cases h : rg l0_0 a0_1 = 0
  · have q := takeR_length l0_0 a0_1 a1
    rw [if_pos h, take_at (by omega) _ _ (by omega), Option.bind_some, rtake_at ((rg_V _ _).1 h) _ (by omega), Option.bind_some, same_at (by omega) _ (by omega), Option.bind_some, if_pos rfl]
    simp
  · rw [if_neg h]
end Go.Proofs.Yteepdedbldnccaa.Pure

/- The plain law of ChainContacts: the printed function answers true for every chain, contact and person. -/
import Derived.Test.YteepdedbldnccaaChainOps
import Derived.Test.YteepdedbldnccaaPx28
namespace Go.Proofs.Yteepdedbldnccaa.Pure
set_option linter.unusedVariables false
set_option linter.unusedSimpArgs false
open Go.RowKit Go.Proofs.YteepdedbldnccaaW.PrintWords Go.Proofs.YteepdedbldnccaaW.PrintLast Go.Proofs.YteepdedbldnccaaW.PrintMore Go.Proofs.Yteepdedbldnccaa
theorem ChainContacts (l0_0 : List (P.S48)) (a0_1 : Int) (a1 : Int) (a2 : Int) (w0_0 : ∀ x ∈ l0_0, ok48 x) (y0_0 : l0_0.length ≤ 9223372036854775807) (w0_1 : I64 a0_1) (w1 : I64 a1) (w2 : I64 a2) : ∃ k, P.skiarealaw16_ChainContacts.f k l0_0 a0_1 a1 a2 = some true := by
  obtain ⟨k, hk⟩ : ∃ k : Nat, k = 2000 := ⟨_, rfl⟩
  refine ⟨k, ?_⟩
  unfold P.skiarealaw16_ChainContacts.f
  rw [alive_at (by omega), Option.bind_some, if_pos rfl]
  by_cases hl : l0_0.length > 32
  · rw [rright_long hl, Option.bind_some, if_neg (by decide)]
  rw [rright_at (by omega) a0_1 (by omega), Option.bind_some]
  by_cases h : rg l0_0 a0_1 = 0
  · have q1 := breakR_length l0_0 a0_1 a1
    have q2 := makeR_length l0_0 a0_1 a1
    have q3 := clearR_length l0_0 a0_1 a1 a2
    rw [if_pos h, break_at (by omega), rbreak_at (by omega) _ _ (by omega), make_at (by omega), rmake_at (by omega) _ _ (by omega), clear_at (by omega), rclear_at (by omega) _ _ _ (by omega)]
    simp only [Option.bind_some, if_true]
    rw [same_at (by omega) _ (by omega), Option.bind_some, if_pos rfl, same_at (by omega) _ (by omega), Option.bind_some, if_pos rfl, same_at (by omega) _ (by omega), Option.bind_some, if_pos rfl]
    simp
  · rw [if_neg h]
end Go.Proofs.Yteepdedbldnccaa.Pure

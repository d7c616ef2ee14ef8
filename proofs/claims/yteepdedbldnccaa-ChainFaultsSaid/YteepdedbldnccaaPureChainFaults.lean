/- The plain law of ChainFaults: the printed function answers true for every chain and times. -/
import Derived.Test.YteepdedbldnccaaChainKey
import Derived.Test.YteepdedbldnccaaPx35
namespace Go.Proofs.Yteepdedbldnccaa.Pure
set_option linter.unusedVariables false
set_option linter.unusedSimpArgs false
open Go.RowKit Go.Proofs.YteepdedbldnccaaW.PrintWords Go.Proofs.YteepdedbldnccaaW.PrintLast Go.Proofs.YteepdedbldnccaaW.PrintMore Go.Proofs.Yteepdedbldnccaa
theorem ChainFaults (l0_0 : List (P.S48)) (a0_1 : Int) (a1 : Int) (a2 : Int) (w0_0 : ∀ x ∈ l0_0, ok48 x) (y0_0 : l0_0.length ≤ 9223372036854775807) (w0_1 : I64 a0_1) (w1 : I64 a1) (w2 : I64 a2) : ∃ k, P.skiarealaw16_ChainFaults.f k l0_0 a0_1 a1 a2 = some true := by
  obtain ⟨k, hk⟩ : ∃ k : Nat, k = 2000 := ⟨_, rfl⟩
  refine ⟨k, ?_⟩
  unfold P.skiarealaw16_ChainFaults.f
  rw [alive_at (by omega), Option.bind_some, if_pos rfl]
  by_cases hl : l0_0.length > 32
  · rw [rright_long hl, Option.bind_some, if_neg (by decide)]
  rw [rright_at (by omega) a0_1 (by omega), Option.bind_some]
  by_cases h : rg l0_0 a0_1 = 0
  · have hv := (rg_V _ _).1 h
    have h0 : ∀ x ∈ l0_0, 0 ≤ x.f4 := by
      intro x hx
      obtain ⟨j, hj, rfl⟩ := List.getElem_of_mem hx
      exact (hv.2.2.2.1 j hj).2.2.1
    have hm : (l0_0.map (exx a1)).length ≤ 100 := by rw [List.length_map]; omega
    have q2 := faultR_length l0_0 a2
    have q1 := faultR_length l0_0 a1
    rw [if_pos h, expire_at (by omega) _ _ (by omega), Option.bind_some, rexpire_at (by omega) _ _ (by omega), Option.bind_some, same_at hm _ (by omega), Option.bind_some, if_pos rfl, faults_at (by omega) _ _ (by omega), Option.bind_some, rfaults_at (by omega) _ _ (by omega), Option.bind_some, ints_at (by omega) (by omega), Option.bind_some, if_pos rfl, Option.bind_some, faults_at hm _ _ (by omega), Option.bind_some, faults_at (by omega) _ _ (by omega), Option.bind_some, faultR_expire a1 h0, ints_at (by omega) (by omega), Option.bind_some]
  · rw [if_neg h]
end Go.Proofs.Yteepdedbldnccaa.Pure

/- The plain law of DriveSteps: the printed function answers true for all numbers. -/
import Derived.Test.YtaleljinebkdkaaDriveRef
import Derived.Test.YtaleljinebkdkaaPx27
namespace Go.Proofs.Ytaleljinebkdkaa.Pure
set_option linter.unusedVariables false
set_option linter.unusedSimpArgs false
open Go.RowKit Go.Proofs.YtaleljinebkdkaaW.PrintWords Go.Proofs.YtaleljinebkdkaaW.PrintLast Go.Proofs.YtaleljinebkdkaaW.PrintMore Go.Proofs.Ytaleljinebkdkaa
theorem DriveSteps (a0_0 : Int) (a0_1 : Int) (a0_2 : Int) (a0_3 : Int) (a1_0 : Int) (a1_1 : Int) (a1_2 : Int) (a1_3 : Int) (a2 : Int) (w0_0 : I64 a0_0) (w0_1 : I64 a0_1) (w0_2 : I64 a0_2) (w0_3 : I64 a0_3) (w1_0 : I64 a1_0) (w1_1 : I64 a1_1) (w1_2 : I64 a1_2) (w1_3 : I64 a1_3) (w2 : I64 a2) : ∃ k, P.skiarealaw14_DriveSteps.f k a0_0 a0_1 a0_2 a0_3 a1_0 a1_1 a1_2 a1_3 a2 = some true := by
  refine ⟨8000, ?_⟩
  unfold P.skiarealaw14_DriveSteps.f
  rw [alive_at (by omega), Option.bind_some, if_pos rfl, both_at _ _ _ _ _ _ _ _ 7998, Option.bind_some]
  by_cases h : VM a0_0 a0_1 a0_2 a0_3 ∧ VD a0_0 (a1_0, a1_1, a1_2, a1_3)
  · rw [if_pos (by simpa using h), step_at h.1 h.2 a2 (by omega), Option.bind_some, rstep_at h.1 h.2 a2 (by omega), Option.bind_some]
    simp only [BEq.rfl, Bool.and_self, if_true]
    rw [dist_at h.1 h.2 (by omega), Option.bind_some, rdist_at h.1 h.2 (by omega), Option.bind_some]
    simp
  · rw [if_neg (by simpa using h)]
end Go.Proofs.Ytaleljinebkdkaa.Pure

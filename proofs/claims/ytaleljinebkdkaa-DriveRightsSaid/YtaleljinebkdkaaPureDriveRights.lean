/- The plain law of DriveRights: the printed function answers true for all numbers. -/
import Derived.Test.YtaleljinebkdkaaDrive
import Derived.Test.YtaleljinebkdkaaPx17
namespace Go.Proofs.Ytaleljinebkdkaa.Pure
set_option linter.unusedVariables false
set_option linter.unusedSimpArgs false
open Go.RowKit Go.Proofs.YtaleljinebkdkaaW.PrintWords Go.Proofs.YtaleljinebkdkaaW.PrintLast Go.Proofs.YtaleljinebkdkaaW.PrintMore Go.Proofs.Ytaleljinebkdkaa
theorem DriveRights (a0_0 : Int) (a0_1 : Int) (a0_2 : Int) (a0_3 : Int) (a1_0 : Int) (a1_1 : Int) (a1_2 : Int) (a1_3 : Int) (w0_0 : I64 a0_0) (w0_1 : I64 a0_1) (w0_2 : I64 a0_2) (w0_3 : I64 a0_3) (w1_0 : I64 a1_0) (w1_1 : I64 a1_1) (w1_2 : I64 a1_2) (w1_3 : I64 a1_3) : ∃ k, P.skiarealaw14_DriveRights.f k a0_0 a0_1 a0_2 a0_3 a1_0 a1_1 a1_2 a1_3 = some true := by
  refine ⟨20, ?_⟩
  unfold P.skiarealaw14_DriveRights.f
  rw [alive_at (by omega), Option.bind_some, if_pos rfl, right_at, Option.bind_some, rright_at, Option.bind_some, if_pos (by simp), valid_at, Option.bind_some, rvalid_at, Option.bind_some]
  simp
end Go.Proofs.Ytaleljinebkdkaa.Pure

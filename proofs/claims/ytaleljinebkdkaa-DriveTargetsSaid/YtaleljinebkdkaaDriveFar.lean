/- By how much the distance grew. -/
import Derived.Test.YtaleljinebkdkaaDrive
import Derived.Test.YtaleljinebkdkaaPx28
namespace Go.Proofs.Ytaleljinebkdkaa.Pure
set_option linter.unusedVariables false
set_option linter.unusedSimpArgs false
open Go.RowKit Go.Proofs.YtaleljinebkdkaaW.PrintWords Go.Proofs.YtaleljinebkdkaaW.PrintLast Go.Proofs.YtaleljinebkdkaaW.PrintMore Go.Proofs.Ytaleljinebkdkaa
theorem far_at (a0 a1 a2 a3 b0 b1 b2 b3 : Int) (ha : 0 ≤ a3) (ha' : a3 ≤ 1125899906842624) (hb : 0 ≤ b3) (hb' : b3 ≤ 1125899906842624) : P.skiarealaw14_far.f a0 a1 a2 a3 b0 b1 b2 b3 = some ((b3 - a3) % 1125899906842625) := by
  unfold P.skiarealaw14_far.f
  rw [wrap_at (x := b3 - a3) (by omega) (by omega), wrap_at (x := b3 - a3 + 1125899906842624) (by omega) (by omega), wrap_at (x := b3 - a3 + 1125899906842624 + 1) (by omega) (by omega)]
  split <;> (congr 1; omega)
end Go.Proofs.Ytaleljinebkdkaa.Pure

/- The plain law of RopeLoads: the printed function answers true for every line and number. -/
import Derived.Test.YtkehcgjdgfopdaaRopeLoad
import Derived.Test.YtkehcgjdgfopdaaRopeSame
import Derived.Test.YtkehcgjdgfopdaaPx29
namespace Go.Proofs.Ytkehcgjdgfopdaa.Pure
set_option linter.unusedVariables false
set_option linter.unusedSimpArgs false
open Go.RowKit Go.Proofs.YtkehcgjdgfopdaaW.PrintWords Go.Proofs.YtkehcgjdgfopdaaW.PrintLast Go.Proofs.YtkehcgjdgfopdaaW.PrintMore Go.Proofs.Ytkehcgjdgfopdaa
theorem RopeLoads (a0_0 : Int) (a0_1 : Int) (a0_2 : Int) (l0_3 : List Int) (a1_0 : Int) (a1_1 : Int) (a1_2 : Int) (w0_0 : I64 a0_0) (w0_1 : I64 a0_1) (w0_2 : I64 a0_2) (w0_3 : ∀ x ∈ l0_3, I64 x) (y0_3 : l0_3.length ≤ 9223372036854775807) (w1_0 : I64 a1_0) (w1_1 : I64 a1_1) (w1_2 : I64 a1_2) : ∃ k, P.skiarealaw17_RopeLoads.f k a0_0 a0_1 a0_2 l0_3 a1_0 a1_1 a1_2 = some true := by
  obtain ⟨k, hk⟩ : ∃ k : Nat, k = 2000 := ⟨_, rfl⟩
  refine ⟨k + 1, ?_⟩
  unfold P.skiarealaw17_RopeLoads.f
  rw [alive_at (by omega), Option.bind_some, if_pos rfl, lright_at w0_0 w0_1 w0_2 (by omega), Option.bind_some]
  by_cases h : RL a0_0 a0_1 a0_2 l0_3 16
  · have hl : l0_3.length ≤ 200 := by have := h.1; unfold VL at this; omega
    have hn := h.rd_ (by omega) a1_0
    have e1 := ldR_length a0_0 a0_1 a0_2 l0_3 a1_0 a1_1 a1_2
    have e2 := tkR_length a0_0 a0_1 a0_2 l0_3 a1_0 a1_1
    rw [decide_eq_true h, if_pos rfl, load_at h.1, rload_at h.1, take_at h.1 _ _ hn, rtake_at h.1 _ _ hn]
    simp only [Option.bind_some]
    generalize ldR a0_0 a0_1 a0_2 l0_3 a1_0 a1_1 a1_2 = x at e1 ⊢
    generalize tkR a0_0 a0_1 a0_2 l0_3 a1_0 a1_1 = y at e2 ⊢
    obtain ⟨x0, x1, x2, x3, x4⟩ := x
    obtain ⟨y0, y1, y2, y3, y4⟩ := y
    dsimp only at e1 e2 ⊢
    simp only [same_at (N := 200) (by omega) (show x3.length ≤ 200 by omega) (show 200 + 1 < k + 1 by omega), same_at (N := 200) (by omega) (show y3.length ≤ 200 by omega) (show 200 + 1 < k + 1 by omega), Option.bind_some, if_true]
    simp
  · rw [decide_eq_false h, if_neg (by decide)]
end Go.Proofs.Ytkehcgjdgfopdaa.Pure

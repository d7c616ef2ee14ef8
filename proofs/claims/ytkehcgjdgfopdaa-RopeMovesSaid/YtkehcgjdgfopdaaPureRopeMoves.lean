/- The plain law of RopeMoves: the printed function answers true for every line and number. -/
import Derived.Test.YtkehcgjdgfopdaaRopeMove
import Derived.Test.YtkehcgjdgfopdaaPx25
namespace Go.Proofs.Ytkehcgjdgfopdaa.Pure
set_option linter.unusedVariables false
set_option linter.unusedSimpArgs false
open Go.RowKit Go.Proofs.YtkehcgjdgfopdaaW.PrintWords Go.Proofs.YtkehcgjdgfopdaaW.PrintLast Go.Proofs.YtkehcgjdgfopdaaW.PrintMore Go.Proofs.Ytkehcgjdgfopdaa
theorem RopeMoves (a0_0 : Int) (a0_1 : Int) (a0_2 : Int) (l0_3 : List Int) (a1 : Int) (w0_0 : I64 a0_0) (w0_1 : I64 a0_1) (w0_2 : I64 a0_2) (w0_3 : ∀ x ∈ l0_3, I64 x) (y0_3 : l0_3.length ≤ 9223372036854775807) (w1 : I64 a1) : ∃ k, P.skiarealaw17_RopeMoves.f k a0_0 a0_1 a0_2 l0_3 a1 = some true := by
  obtain ⟨k, hk⟩ : ∃ k : Nat, k = 2000 := ⟨_, rfl⟩
  refine ⟨k, ?_⟩
  unfold P.skiarealaw17_RopeMoves.f
  rw [alive_at (by omega), Option.bind_some, if_pos rfl, lright_at w0_0 w0_1 w0_2 (by omega), Option.bind_some]
  by_cases h : RL a0_0 a0_1 a0_2 l0_3 16
  · have hb : ∀ i : Nat, i < l0_3.length → 0 ≤ LD l0_3 i ∧ LD l0_3 i ≤ 16 := fun i hi => ⟨(h.at_ hi).1, (h.at_ hi).2.1⟩
    have hl : l0_3.length ≤ 200 := by have := h.1; unfold VL at this; omega
    have hlen := mv_length a0_0 a0_1 a0_2 a1 l0_3
    rw [decide_eq_true h, if_pos rfl, move_at h.1 hb (by omega), Option.bind_some, rmove_at h.1 hb (by omega), Option.bind_some]
    generalize mv a0_0 a0_1 a0_2 l0_3 a1 = x at hlen ⊢
    obtain ⟨x0, x1, x2, x3, x4, x5, x6⟩ := x
    dsimp only at hlen ⊢
    simp only [same_at (N := 200) (by omega) (show x3.length ≤ 200 by omega) (show 200 + 1 < k by omega), Option.bind_some, if_true]
    simp
  · rw [decide_eq_false h, if_neg (by decide)]
end Go.Proofs.Ytkehcgjdgfopdaa.Pure

/- The plain law of RopeRights: the printed function answers true for every line and number. -/
import Derived.Test.YtkehcgjdgfopdaaRopeSum
import Derived.Test.YtkehcgjdgfopdaaPx22
namespace Go.Proofs.Ytkehcgjdgfopdaa.Pure
set_option linter.unusedVariables false
set_option linter.unusedSimpArgs false
open Go.RowKit Go.Proofs.YtkehcgjdgfopdaaW.PrintWords Go.Proofs.YtkehcgjdgfopdaaW.PrintLast Go.Proofs.YtkehcgjdgfopdaaW.PrintMore Go.Proofs.Ytkehcgjdgfopdaa
theorem RopeRights (a0_0 : Int) (a0_1 : Int) (a0_2 : Int) (l0_3 : List Int) (a1 : Int) (a2_0 : Int) (a2_1 : Int) (w0_0 : I64 a0_0) (w0_1 : I64 a0_1) (w0_2 : I64 a0_2) (w0_3 : ∀ x ∈ l0_3, I64 x) (y0_3 : l0_3.length ≤ 9223372036854775807) (w1 : I64 a1) (w2_0 : I64 a2_0) (w2_1 : I64 a2_1) : ∃ k, P.skiarealaw17_RopeRights.f k a0_0 a0_1 a0_2 l0_3 a1 a2_0 a2_1 = some true := by
  obtain ⟨k, hk⟩ : ∃ k : Nat, k = 2000 := ⟨_, rfl⟩
  refine ⟨k, ?_⟩
  unfold P.skiarealaw17_RopeRights.f
  rw [alive_at (by omega), Option.bind_some, if_pos rfl, few_at, Option.bind_some]
  by_cases hf : l0_3.length ≤ 250
  · rw [decide_eq_true hf, if_pos rfl, right_at hf w0_0 w0_1 w0_2 a1 (by omega), Option.bind_some, rright_at hf w0_0 w0_1 w0_2 a1 (by omega), Option.bind_some, if_neg (by simp), lright_at w0_0 w0_1 w0_2 (by omega), Option.bind_some]
    by_cases h : RL a0_0 a0_1 a0_2 l0_3 16
    · have hb : ∀ i : Nat, i < l0_3.length → 0 ≤ LD l0_3 i ∧ LD l0_3 i ≤ 16 := fun i hi => ⟨(h.at_ hi).1, (h.at_ hi).2.1⟩
      have hl : l0_3.length ≤ 200 := by have := h.1; unfold VL at this; omega
      have ea : P.skiarearef17_At.f a0_0 a0_1 a0_2 l0_3 a2_0 = P.rope_At.f a0_0 a0_1 a0_2 l0_3 a2_0 ∧ ∃ x, P.rope_At.f a0_0 a0_1 a0_2 l0_3 a2_0 = some x := by
        by_cases hi : 0 ≤ a2_0 ∧ a2_0 < (l0_3.length : Int)
        · rw [at_in h.1 hi.1 hi.2, rat_in h.1 hi.1 hi.2]; exact ⟨rfl, _, rfl⟩
        · rw [at_out y0_3 (by omega), rat_out (by omega)]; exact ⟨rfl, _, rfl⟩
      obtain ⟨e, x, hx⟩ := ea
      rw [decide_eq_true h, if_pos rfl, e, hx, Option.bind_some, Option.bind_some, if_pos rfl, people_at hl hb (by omega), Option.bind_some, rpeople_at hl hb (by omega), Option.bind_some, if_pos rfl, between_at h.1 hb _ _ (by omega), Option.bind_some, rbetween_at h.1 hb _ _ (by omega), Option.bind_some]
      simp
    · rw [decide_eq_false h, if_neg (by decide)]
  · rw [decide_eq_false hf, if_neg (by decide)]
end Go.Proofs.Ytkehcgjdgfopdaa.Pure

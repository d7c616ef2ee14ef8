/- The plain law of RopeNews: the printed function answers true for every line and number. -/
import Derived.Test.YtkehcgjdgfopdaaRopeSame
import Derived.Test.YtkehcgjdgfopdaaPx13
import Derived.Test.YtkehcgjdgfopdaaPx15
import Derived.Test.YtkehcgjdgfopdaaPx2
namespace Go.Proofs.Ytkehcgjdgfopdaa.Pure
set_option linter.unusedVariables false
set_option linter.unusedSimpArgs false
open Go.RowKit Go.Proofs.YtkehcgjdgfopdaaW.PrintWords Go.Proofs.YtkehcgjdgfopdaaW.PrintLast Go.Proofs.YtkehcgjdgfopdaaW.PrintMore Go.Proofs.Ytkehcgjdgfopdaa
theorem in_parts (a b c : Int) (hb : b ≤ c) : decide (b ≤ a ∧ a ≤ c) = true ↔ ¬ a < b ∧ ¬ a > c := by rw [decide_eq_true_iff]; omega
/-- What New answers. -/
def newR (len sp : Int) : Int × Int × Int × List Int × Int :=
  if (10 ≤ len ∧ len ≤ 6000) ∧ (5 ≤ sp ∧ sp ≤ 1000) ∧ 2 * len % sp = 0 ∧ 2 * len / sp ≤ 200 then (2000 * len, 1000 * sp, 0, List.replicate (2 * len / sp).toNat 0, 0) else (0, 0, 0, [], 1)
theorem new_tail {len sp : Int} (h1 : 10 ≤ len ∧ len ≤ 6000) (h2 : 5 ≤ sp ∧ sp ≤ 1000) : (if sp = 0 then (none : Option (Int × Int × Int × List Int × Int)) else (if (Int.tmod (wrap64 (2 * len)) sp) = 0 then (if (wrap64 (Int.tdiv (wrap64 (2 * len)) sp)) > 200 then (some (0, 0, 0, ([] : List Int), 1)) else (if 0 ≤ (wrap64 (Int.tdiv (wrap64 (2 * len)) sp)) then (if (wrap64 (Int.tdiv (wrap64 (2 * len)) sp) : Int).toNat ≤ 35184372088832 then (some (wrap64 (2000 * len), wrap64 (1000 * sp), 0, (List.replicate (wrap64 (Int.tdiv (wrap64 (2 * len)) sp) : Int).toNat 0), 0)) else (none)) else (none))) else (some (0, 0, 0, ([] : List Int), 1)))) = some (newR len sp) := by
  have hq : 0 ≤ 2 * len / sp ∧ 2 * len / sp ≤ 12000 := ⟨Int.ediv_nonneg (by omega) (by omega), Int.le_trans (Int.ediv_le_self _ (by omega)) (by omega)⟩
  rw [wrap_at (x := 2 * len) (by omega) (by omega), Int.tdiv_eq_ediv_of_nonneg (by omega), Int.tmod_eq_emod_of_nonneg (by omega), wrap_at (x := 2 * len / sp) (by omega) (by omega), wrap_at (x := 2000 * len) (by omega) (by omega), wrap_at (x := 1000 * sp) (by omega) (by omega), if_neg (by omega)]
  unfold newR
  by_cases h3 : 2 * len % sp = 0
  · rw [if_pos h3]
    by_cases h4 : 2 * len / sp > 200
    · rw [if_pos h4, if_neg (by omega)]
    · rw [if_neg h4, if_pos hq.1, if_pos (by omega), if_pos ⟨h1, h2, h3, by omega⟩]
  · rw [if_neg h3, if_neg (fun h => h3 h.2.2.1)]
theorem new_at (a0 a1 a2 a3 len a5 a6 sp : Int) : P.rope_New.f a0 a1 a2 a3 len a5 a6 sp = some (newR len sp) := by
  unfold P.rope_New.f
  rw [in_at, Option.bind_some]
  by_cases h1 : 10 ≤ len ∧ len ≤ 6000
  · rw [decide_eq_true h1, if_pos rfl, in_at, Option.bind_some]
    by_cases h2 : 5 ≤ sp ∧ sp ≤ 1000
    · rw [decide_eq_true h2, if_pos rfl]
      exact new_tail h1 h2
    · rw [decide_eq_false h2, if_neg (by decide), newR, if_neg (fun h => h2 h.2.1)]
  · rw [decide_eq_false h1, if_neg (by decide), newR, if_neg (fun h => h1 h.1)]
theorem rnew_at (a0 a1 a2 a3 len a5 a6 sp : Int) : P.skiarearef17_New.f a0 a1 a2 a3 len a5 a6 sp = some (newR len sp) := by
  unfold P.skiarearef17_New.f
  by_cases h1 : len < 10
  · rw [if_pos h1, newR, if_neg (by omega)]
  rw [if_neg h1]
  by_cases h2 : len > 6000
  · rw [if_pos h2, newR, if_neg (by omega)]
  rw [if_neg h2]
  by_cases h3 : sp < 5
  · rw [if_pos h3, newR, if_neg (by omega)]
  rw [if_neg h3]
  by_cases h4 : sp > 1000
  · rw [if_pos h4, newR, if_neg (by omega)]
  rw [if_neg h4]
  exact new_tail (by omega) (by omega)
theorem RopeNews (a0_0 : Int) (a0_1 : Int) (a0_2 : Int) (a0_3 : Int) (a0_4 : Int) (a0_5 : Int) (a0_6 : Int) (a0_7 : Int) (w0_0 : I64 a0_0) (w0_1 : I64 a0_1) (w0_2 : I64 a0_2) (w0_3 : I64 a0_3) (w0_4 : I64 a0_4) (w0_5 : I64 a0_5) (w0_6 : I64 a0_6) (w0_7 : I64 a0_7) : ∃ k, P.skiarealaw17_RopeNews.f k a0_0 a0_1 a0_2 a0_3 a0_4 a0_5 a0_6 a0_7 = some true := by
  obtain ⟨k, hk⟩ : ∃ k : Nat, k = 2000 := ⟨_, rfl⟩
  refine ⟨k, ?_⟩
  unfold P.skiarealaw17_RopeNews.f
  rw [alive_at (by omega), Option.bind_some, if_pos rfl, new_at, Option.bind_some, rnew_at, Option.bind_some]
  unfold newR
  by_cases h : (10 ≤ a0_4 ∧ a0_4 ≤ 6000) ∧ (5 ≤ a0_7 ∧ a0_7 ≤ 1000) ∧ 2 * a0_4 % a0_7 = 0 ∧ 2 * a0_4 / a0_7 ≤ 200
  · rw [if_pos h]
    dsimp only
    obtain ⟨h1, h2, h3, h4⟩ := h
    have hq : 0 ≤ 2 * a0_4 / a0_7 := Int.ediv_nonneg (by omega) (by omega)
    have hq1 : 1 ≤ 2 * a0_4 / a0_7 := by
      rcases Int.lt_or_le 0 (2 * a0_4 / a0_7) with h | h
      · omega
      · have e := Int.mul_ediv_add_emod (2 * a0_4) a0_7
        have : 2 * a0_4 / a0_7 = 0 := by omega
        rw [this] at e
        omega
    have hlen : (List.replicate (2 * a0_4 / a0_7).toNat (0 : Int)).length = (2 * a0_4 / a0_7).toNat := List.length_replicate
    have hv : VL (2000 * a0_4) (1000 * a0_7) 0 (List.replicate (2 * a0_4 / a0_7).toNat (0 : Int)).length := by
      have e := Int.mul_ediv_add_emod (2 * a0_4) a0_7
      rw [h3, Int.add_zero] at e
      refine ⟨by omega, by omega, by omega, by omega, ?_, by omega, by omega, by omega⟩
      rw [hlen, Int.toNat_of_nonneg hq, Int.mul_assoc, e]
      omega
    have hr : RL (2000 * a0_4) (1000 * a0_7) 0 (List.replicate (2 * a0_4 / a0_7).toNat (0 : Int)) 0 := RL.mk_ hv (fun i hi => by
      rw [List.getD_eq_getElem?_getD, List.getElem?_replicate, if_pos (by omega)]
      exact ⟨by simp, by simp, Or.inr (by simp)⟩)
    rw [same_at (N := 200) (by omega) (by omega) (by omega), Option.bind_some, if_pos rfl, if_pos rfl, if_pos rfl, right_at (by omega) (by unfold I64; simp [Lit.wf, IntKind.min, IntKind.max, IntKind.signed, IntKind.bits]; omega) (by unfold I64; simp [Lit.wf, IntKind.min, IntKind.max, IntKind.signed, IntKind.bits]; omega) (by unfold I64; decide) 0 (by omega), Option.bind_some, decide_eq_true hr]
  · rw [if_neg h]
    dsimp only
    rw [same_at (N := 200) (by omega) (by simp) (by omega), Option.bind_some, if_pos rfl, if_pos rfl, if_neg (by decide)]
end Go.Proofs.Ytkehcgjdgfopdaa.Pure

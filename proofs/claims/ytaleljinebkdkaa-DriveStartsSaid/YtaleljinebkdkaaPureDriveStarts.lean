/- The plain law of DriveStarts: the printed function answers true for all numbers. -/
import Derived.Test.YtaleljinebkdkaaDrive
import Derived.Test.YtaleljinebkdkaaPx23
namespace Go.Proofs.Ytaleljinebkdkaa.Pure
set_option linter.unusedVariables false
set_option linter.unusedSimpArgs false
open Go.RowKit Go.Proofs.YtaleljinebkdkaaW.PrintWords Go.Proofs.YtaleljinebkdkaaW.PrintLast Go.Proofs.YtaleljinebkdkaaW.PrintMore Go.Proofs.Ytaleljinebkdkaa
theorem start_at (m u dn s st v t mv n : Int) (k : Nat) : P.drive_Start.f (k + 1) m u dn s st v t mv n = some (if st = 2 ∨ st = 3 then (0, 0, 0, 0, 10) else if 1 ≤ n ∧ n ≤ m then (1, v, n, mv, 0) else (0, 0, 0, 0, 2)) := by
  unfold P.drive_Start.f
  simp only [P.drive_Start.j0, in_at, Option.bind_some]
  by_cases h2 : st = 2
  · simp [h2]
  · by_cases h3 : st = 3
    · simp [h3]
    · by_cases h : 1 ≤ n ∧ n ≤ m <;> simp [h2, h3, h]
theorem rstart_at (m u dn s st v t mv n : Int) (k : Nat) : P.skiarearef14_Start.f (k + 1) m u dn s st v t mv n = some (if st = 2 ∨ st = 3 then (0, 0, 0, 0, 10) else if 1 ≤ n ∧ n ≤ m then (1, v, n, mv, 0) else (0, 0, 0, 0, 2)) := by
  unfold P.skiarearef14_Start.f
  simp only [P.skiarearef14_Start.j0]
  by_cases h2 : st = 2
  · simp [h2]
  · by_cases h3 : st = 3
    · simp [h3]
    · by_cases h : n < 1
      · rw [if_neg h2, show (st == 3) = false by simp [h3], if_neg (by decide), if_pos h, if_neg (by omega), if_neg (by omega)]
      · by_cases h' : n > m
        · rw [if_neg h2, show (st == 3) = false by simp [h3], if_neg (by decide), if_neg h, if_pos h', if_neg (by omega), if_neg (by omega)]
        · rw [if_neg h2, show (st == 3) = false by simp [h3], if_neg (by decide), if_neg h, if_neg h', if_neg (by omega), if_pos (by omega)]
theorem reset_some (m u dn s st v t mv : Int) : ∃ x, P.drive_Reset.f m u dn s st v t mv = some x := by
  unfold P.drive_Reset.f
  split
  · split <;> exact ⟨_, rfl⟩
  · exact ⟨_, rfl⟩
theorem halt_some (m u dn s st v t mv : Int) : ∃ x, P.drive_Halt.f m u dn s st v t mv = some x := by
  unfold P.drive_Halt.f
  split <;> exact ⟨_, rfl⟩
theorem DriveStarts (a0_0 : Int) (a0_1 : Int) (a0_2 : Int) (a0_3 : Int) (a1_0 : Int) (a1_1 : Int) (a1_2 : Int) (a1_3 : Int) (a2 : Int) (w0_0 : I64 a0_0) (w0_1 : I64 a0_1) (w0_2 : I64 a0_2) (w0_3 : I64 a0_3) (w1_0 : I64 a1_0) (w1_1 : I64 a1_1) (w1_2 : I64 a1_2) (w1_3 : I64 a1_3) (w2 : I64 a2) : ∃ k, P.skiarealaw14_DriveStarts.f k a0_0 a0_1 a0_2 a0_3 a1_0 a1_1 a1_2 a1_3 a2 = some true := by
  refine ⟨20, ?_⟩
  unfold P.skiarealaw14_DriveStarts.f
  rw [alive_at (by omega), Option.bind_some, if_pos rfl, both_at, Option.bind_some]
  by_cases h : VM a0_0 a0_1 a0_2 a0_3 ∧ VD a0_0 (a1_0, a1_1, a1_2, a1_3)
  · rw [if_pos (by simpa using h), start_at, rstart_at]
    simp only [Option.bind_some, BEq.rfl, Bool.and_self, if_true]
    rw [show P.skiarearef14_Reset.f a0_0 a0_1 a0_2 a0_3 a1_0 a1_1 a1_2 a1_3 = P.drive_Reset.f a0_0 a0_1 a0_2 a0_3 a1_0 a1_1 a1_2 a1_3 from rfl, show P.skiarearef14_Halt.f a0_0 a0_1 a0_2 a0_3 a1_0 a1_1 a1_2 a1_3 = P.drive_Halt.f a0_0 a0_1 a0_2 a0_3 a1_0 a1_1 a1_2 a1_3 from rfl, show P.skiarearef14_Emergency.f a0_0 a0_1 a0_2 a0_3 a1_0 a1_1 a1_2 a1_3 = P.drive_Emergency.f a0_0 a0_1 a0_2 a0_3 a1_0 a1_1 a1_2 a1_3 from rfl]
    obtain ⟨x, hx⟩ := reset_some a0_0 a0_1 a0_2 a0_3 a1_0 a1_1 a1_2 a1_3
    obtain ⟨y, hy⟩ := halt_some a0_0 a0_1 a0_2 a0_3 a1_0 a1_1 a1_2 a1_3
    simp only [hx, hy, Option.bind_some, BEq.rfl, Bool.and_self, if_true]
    unfold P.drive_Emergency.f
    simp
  · rw [if_neg (by simpa using h)]
end Go.Proofs.Ytaleljinebkdkaa.Pure

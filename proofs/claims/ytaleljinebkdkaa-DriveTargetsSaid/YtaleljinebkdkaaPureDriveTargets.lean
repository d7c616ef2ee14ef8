/- The plain law of DriveTargets: the printed function answers true for all numbers. -/
import Derived.Test.YtaleljinebkdkaaDriveSlow
import Derived.Test.YtaleljinebkdkaaPx30
namespace Go.Proofs.Ytaleljinebkdkaa.Pure
set_option linter.unusedVariables false
set_option linter.unusedSimpArgs false
open Go.RowKit Go.Proofs.YtaleljinebkdkaaW.PrintWords Go.Proofs.YtaleljinebkdkaaW.PrintLast Go.Proofs.YtaleljinebkdkaaW.PrintMore Go.Proofs.Ytaleljinebkdkaa
theorem targets_j0 {m u dn s st v t mv : Int} (hm : VM m u dn s) (hd : VD m (st, v, t, mv)) {k : Nat} (hk : 400 ≤ k) :
    P.skiarealaw14_DriveTargets.j0 (k + 1) false m u dn s st v t mv (sec u dn s (st, v, t, mv)).1 (sec u dn s (st, v, t, mv)).2.1 (sec u dn s (st, v, t, mv)).2.2.1 (sec u dn s (st, v, t, mv)).2.2.2 = some true := by
  have hm' := hm
  unfold VM at hm'
  have hd' := hd
  unfold VD at hd'
  simp only at hd'
  simp only [P.skiarealaw14_DriveTargets.j0]
  rw [if_neg (by decide)]
  by_cases h0 : st = 0
  · obtain rfl : v = 0 := by omega
    obtain rfl : t = 0 := by omega
    subst h0
    rw [if_pos rfl, sec_zero]
    simp
    omega
  · rw [if_neg h0]
    have hfar : P.skiarealaw14_far.f st v t mv (sec u dn s (st, v, t, mv)).1 (sec u dn s (st, v, t, mv)).2.1 (sec u dn s (st, v, t, mv)).2.2.1 (sec u dn s (st, v, t, mv)).2.2.2 = some (sec u dn s (st, v, t, mv)).2.1 := by
      have hr := spd_range hm hd
      have hx := VD.sec hm hd
      unfold VD at hx
      rw [far_at _ _ _ _ _ _ _ _ (by omega) (by omega) (by omega) (by omega)]
      congr 1
      unfold sec
      simp only
      omega
    by_cases h3 : st = 3
    · subst h3
      obtain rfl : t = 0 := by omega
      unfold P.drive_Halt.f
      rw [if_neg (by decide), Option.bind_some]
      have hs := step_few hm hd 240 (by omega) (by omega) (k := k) (by omega)
      dsimp only at hs ⊢
      rw [hs, Option.bind_some, if_pos rfl]
      obtain ⟨T, h1, h2, h3⟩ := emer u dn (s := s) (by omega) 240 v mv (by omega) (by omega) (by omega) (by omega)
      rw [show ((240 : Int).toNat) = 240 from rfl, h1]
      dsimp only
      rw [if_pos (by omega), hfar, Option.bind_some]
      simp
    · have hh : P.drive_Halt.f m u dn s st v t mv = some (2, v, 0, mv) := by
        unfold P.drive_Halt.f
        by_cases h1 : st = 1
        · rw [if_pos h1]
        · rw [if_neg h1]
          obtain rfl : st = 2 := by omega
          obtain rfl : t = 0 := by omega
          rfl
      rw [hh, Option.bind_some]
      have hd2 : VD m (2, v, 0, mv) := ⟨show (0 : Int) ≤ 2 by decide, show (2 : Int) ≤ 3 by decide, show 0 ≤ v by omega, show v ≤ m by omega, show 0 ≤ mv by omega, show mv ≤ 1125899906842624 by omega, .inl (show (2 : Int) ≠ 0 by decide), .inl (show (2 : Int) ≠ 1 by decide), .inr rfl⟩
      have hs := step_few hm hd2 240 (by omega) (by omega) (k := k) (by omega)
      dsimp only at hs ⊢
      rw [hs, Option.bind_some, if_neg h3]
      rcases slow u s (dn := dn) (by omega) 239 v mv (by omega) (by omega) with ⟨h1, h2⟩ | ⟨_, h2, h3⟩
      · rw [show ((240 : Int).toNat) = 239 + 1 from rfl, if_pos h1, if_pos h2, hfar, Option.bind_some]
        simp
      · exfalso; omega
theorem DriveTargets (a0_0 : Int) (a0_1 : Int) (a0_2 : Int) (a0_3 : Int) (a1_0 : Int) (a1_1 : Int) (a1_2 : Int) (a1_3 : Int) (w0_0 : I64 a0_0) (w0_1 : I64 a0_1) (w0_2 : I64 a0_2) (w0_3 : I64 a0_3) (w1_0 : I64 a1_0) (w1_1 : I64 a1_1) (w1_2 : I64 a1_2) (w1_3 : I64 a1_3) : ∃ k, P.skiarealaw14_DriveTargets.f k a0_0 a0_1 a0_2 a0_3 a1_0 a1_1 a1_2 a1_3 = some true := by
  obtain ⟨k, hk⟩ : ∃ k : Nat, k = 2000 := ⟨_, rfl⟩
  refine ⟨k + 2, ?_⟩
  unfold P.skiarealaw14_DriveTargets.f
  rw [alive_at (by omega), Option.bind_some, if_pos rfl, both_at, Option.bind_some]
  by_cases h : VM a0_0 a0_1 a0_2 a0_3 ∧ VD a0_0 (a1_0, a1_1, a1_2, a1_3)
  · rw [if_pos (by simpa using h)]
    obtain ⟨hm, hd⟩ := h
    have hs := step_few hm hd 1 (by omega) (by omega) (k := k + 2) (by omega)
    dsimp only at hs
    rw [hs, Option.bind_some, show secs a0_1 a0_2 a0_3 (1 : Int).toNat (a1_0, a1_1, a1_2, a1_3) = sec a0_1 a0_2 a0_3 (a1_0, a1_1, a1_2, a1_3) from rfl]
    have key := targets_j0 hm hd (k := k + 1) (by omega)
    by_cases h1 : a1_0 = 1
    · have hm' := hm
      unfold VM at hm'
      have hd' := hd
      unfold VD at hd'
      simp only at hd'
      have hr := spd_range hm hd
      subst h1
      have e1 : (sec a0_1 a0_2 a0_3 (1, a1_1, a1_2, a1_3)).1 = 1 := by unfold sec; simp
      have e2 : (sec a0_1 a0_2 a0_3 (1, a1_1, a1_2, a1_3)).2.2.1 = a1_2 := rfl
      have e3 : (sec a0_1 a0_2 a0_3 (1, a1_1, a1_2, a1_3)).2.1 = if a1_1 < a1_2 then min (a1_1 + a0_1) a1_2 else max (a1_1 - a0_2) a1_2 := by
        unfold sec spd; simp
      generalize sec a0_1 a0_2 a0_3 (1, a1_1, a1_2, a1_3) = x at e1 e2 e3 key ⊢
      obtain ⟨x0, x1, x2, x3⟩ := x
      dsimp only at e1 e2 e3 key ⊢
      subst e1 e2
      have hx1 : 0 ≤ x1 ∧ x1 ≤ a0_0 := by split at e3 <;> omega
      rw [if_pos rfl, if_pos rfl, if_pos rfl, wrap_at (x := x1 - x2) (by omega) (by omega), wrap_at (x := x2 - x1) (by omega) (by omega), wrap_at (x := a1_1 - x2) (by omega) (by omega), wrap_at (x := x2 - a1_1) (by omega) (by omega), mx_eq, mx_eq]
      by_cases hlt : a1_1 < x2
      · rw [if_pos hlt] at e3
        rw [if_neg (by omega), if_neg (by omega)]
        by_cases hq : x1 < x2
        · rw [decide_eq_true hlt, decide_eq_true hq, if_neg (by decide)]
          exact key
        · rw [decide_eq_true hlt, decide_eq_false hq, if_pos (by decide), show (max (x1 - x2) (x2 - x1) != 0) = false by simp; omega]
          exact key
      · rw [if_neg hlt] at e3
        have hq : ¬ x1 < x2 := by omega
        rw [if_neg (by omega), decide_eq_false hlt, decide_eq_false hq]
        by_cases he : max (x1 - x2) (x2 - x1) = max (a1_1 - x2) (x2 - a1_1)
        · rw [if_pos he, if_pos (by omega), if_neg (by decide)]
          exact key
        · rw [if_neg he, if_neg (by decide)]
          exact key
    · rw [if_neg h1]
      exact key
  · rw [if_neg (by simpa using h)]
end Go.Proofs.Ytaleljinebkdkaa.Pure

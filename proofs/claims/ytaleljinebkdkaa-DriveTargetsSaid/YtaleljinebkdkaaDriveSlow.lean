/- A normal stop in plain Lean. -/
import Derived.Test.YtaleljinebkdkaaDriveStop
namespace Go.Proofs.Ytaleljinebkdkaa.Pure
set_option linter.unusedVariables false
set_option linter.unusedSimpArgs false
open Go.RowKit Go.Proofs.YtaleljinebkdkaaW.PrintWords Go.Proofs.YtaleljinebkdkaaW.PrintLast Go.Proofs.YtaleljinebkdkaaW.PrintMore Go.Proofs.Ytaleljinebkdkaa
theorem sec_zero (u dn s mv : Int) : sec u dn s (0, 0, 0, mv) = (0, 0, 0, mv % 1125899906842625) := by
  unfold sec spd
  simp
theorem stay_zero (u dn s : Int) : ∀ (n : Nat) (mv : Int), (secs u dn s n (0, 0, 0, mv)).1 = 0 ∧ (secs u dn s n (0, 0, 0, mv)).2.1 = 0
  | 0, _ => ⟨rfl, rfl⟩
  | n + 1, mv => by
    show (secs u dn s n (sec u dn s (0, 0, 0, mv))).1 = 0 ∧ (secs u dn s n (sec u dn s (0, 0, 0, mv))).2.1 = 0
    rw [sec_zero]
    exact stay_zero u dn s n _
theorem sec_slow (u dn s v mv : Int) : sec u dn s (2, v, 0, mv) = (if max (v - dn) 0 = 0 then 0 else 2, max (v - dn) 0, 0, (mv + max (v - dn) 0) % 1125899906842625) := by
  unfold sec spd
  simp
theorem slow (u s : Int) {dn : Int} (h0 : 50 ≤ dn) : ∀ (n : Nat) (v mv : Int), 0 ≤ v → v ≤ 12000 →
    ((secs u dn s (n + 1) (2, v, 0, mv)).1 = 0 ∧ (secs u dn s (n + 1) (2, v, 0, mv)).2.1 = 0) ∨ ((secs u dn s (n + 1) (2, v, 0, mv)).1 = 2 ∧ 0 < (secs u dn s (n + 1) (2, v, 0, mv)).2.1 ∧ (secs u dn s (n + 1) (2, v, 0, mv)).2.1 ≤ v - 50 * (n + 1 : Nat))
  | 0, v, mv, hv, hv' => by
    show ((sec u dn s (2, v, 0, mv)).1 = 0 ∧ _) ∨ _
    show ((sec u dn s (2, v, 0, mv)).1 = 0 ∧ (sec u dn s (2, v, 0, mv)).2.1 = 0) ∨ ((sec u dn s (2, v, 0, mv)).1 = 2 ∧ 0 < (sec u dn s (2, v, 0, mv)).2.1 ∧ (sec u dn s (2, v, 0, mv)).2.1 ≤ v - 50 * (0 + 1 : Nat))
    rw [sec_slow]
    dsimp only
    by_cases h : max (v - dn) 0 = 0
    · rw [if_pos h]; exact .inl ⟨rfl, h⟩
    · rw [if_neg h]; exact .inr ⟨rfl, by omega, by omega⟩
  | n + 1, v, mv, hv, hv' => by
    show ((secs u dn s (n + 1) (sec u dn s (2, v, 0, mv))).1 = 0 ∧ (secs u dn s (n + 1) (sec u dn s (2, v, 0, mv))).2.1 = 0) ∨ ((secs u dn s (n + 1) (sec u dn s (2, v, 0, mv))).1 = 2 ∧ 0 < (secs u dn s (n + 1) (sec u dn s (2, v, 0, mv))).2.1 ∧ (secs u dn s (n + 1) (sec u dn s (2, v, 0, mv))).2.1 ≤ v - 50 * (n + 1 + 1 : Nat))
    rw [sec_slow]
    by_cases h : max (v - dn) 0 = 0
    · rw [if_pos h, h]; exact .inl (stay_zero u dn s (n + 1) _)
    · rw [if_neg h]
      rcases slow u s h0 n (max (v - dn) 0) ((mv + max (v - dn) 0) % 1125899906842625) (by omega) (by omega) with h1 | ⟨h1, h2, h3⟩
      · exact .inl h1
      · exact .inr ⟨h1, h2, by omega⟩
end Go.Proofs.Ytaleljinebkdkaa.Pure

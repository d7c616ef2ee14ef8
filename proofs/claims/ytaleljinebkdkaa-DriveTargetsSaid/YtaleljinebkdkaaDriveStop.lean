/- An emergency stop in plain Lean: second by second, the way that is left and the way that was made add up to Distance. -/
import Derived.Test.YtaleljinebkdkaaDriveFar
namespace Go.Proofs.Ytaleljinebkdkaa.Pure
set_option linter.unusedVariables false
set_option linter.unusedSimpArgs false
open Go.RowKit Go.Proofs.YtaleljinebkdkaaW.PrintWords Go.Proofs.YtaleljinebkdkaaW.PrintLast Go.Proofs.YtaleljinebkdkaaW.PrintMore Go.Proofs.Ytaleljinebkdkaa
theorem way_le (s : Int) (hs : 0 ≤ s) : ∀ (n : Nat) (v : Int), v ≤ 12000 → way s n v ≤ 12000 * n
  | 0, _, _ => by simp [way]
  | n + 1, v, h => by
    unfold way
    have := way_le s hs n (v - s) (by omega)
    split <;> omega
theorem dist_nonneg (s v : Int) : 0 ≤ dist s v := way_nonneg _ _ _
theorem dist_le {s v : Int} (hs : 0 ≤ s) (h : v ≤ 12000) : dist s v ≤ 2880000 := by
  have := way_le s hs 240 (v - s) (by omega)
  unfold dist
  omega
theorem dist_small {s v : Int} (h : v ≤ s) : dist s v = 0 := way_zero _ (by omega)
theorem dist_big {s v : Int} (hs : 0 ≤ s) (h : s < v) : 0 < dist s v := by
  show 0 < (if v - s > 0 then v - s + way s 239 (v - s - s) else 0)
  rw [if_pos (by omega)]
  have := way_nonneg s 239 (v - s - s)
  omega
theorem dist_step {s v : Int} (h0 : 50 ≤ s) (h : v ≤ 12000) : dist s v = max (v - s) 0 + dist s (max (v - s) 0) := by
  by_cases hv : v ≤ s
  · rw [dist_small hv, show max (v - s) 0 = 0 by omega, dist_small (by omega)]; rfl
  · rw [show max (v - s) 0 = v - s by omega]
    show way s (239 + 1) (v - s) = v - s + way s (239 + 1) (v - s - s)
    rw [way_more (by omega) 239 (v - s - s) (by omega)]
    show (if v - s > 0 then v - s + way s 239 (v - s - s) else 0) = _
    rw [if_pos (by omega)]
theorem VD.three {m v mv : Int} (h0 : 0 ≤ v) (h1 : v ≤ m) (h2 : 0 ≤ mv) (h3 : mv ≤ 1125899906842624) : VD m (3, v, 0, mv) :=
  ⟨show (0 : Int) ≤ 3 by decide, show (3 : Int) ≤ 3 by decide, h0, h1, h2, h3, .inl (show (3 : Int) ≠ 0 by decide), .inl (show (3 : Int) ≠ 1 by decide), .inr rfl⟩
theorem sec_emer (u dn s v mv : Int) : sec u dn s (3, v, 0, mv) = (3, max (v - s) 0, 0, (mv + max (v - s) 0) % 1125899906842625) := by
  unfold sec spd
  simp
theorem emer (u dn : Int) {s : Int} (h0 : 50 ≤ s) : ∀ (n : Nat) (v mv : Int), 0 ≤ v → v ≤ 12000 → 0 ≤ mv → mv ≤ 1125899906842624 →
    ∃ T : Int, secs u dn s n (3, v, 0, mv) = (3, max (v - s * n) 0, 0, (mv + T) % 1125899906842625) ∧ 0 ≤ T ∧ T + dist s (max (v - s * n) 0) = dist s v
  | 0, v, mv, hv, hv', hm, hm' => ⟨0, by
      simp only [secs, Int.natCast_zero, Int.mul_zero, Int.sub_zero, Int.add_zero]
      rw [show max v 0 = v by omega, show mv % 1125899906842625 = mv by omega], by omega, by
      simp only [Int.natCast_zero, Int.mul_zero, Int.sub_zero]
      rw [show max v 0 = v by omega]; omega⟩
  | n + 1, v, mv, hv, hv', hm, hm' => by
    obtain ⟨T, h1, h2, h3⟩ := emer u dn h0 n (max (v - s) 0) ((mv + max (v - s) 0) % 1125899906842625) (by omega) (by omega) (by omega) (by omega)
    have e1 : s * ((n + 1 : Nat) : Int) = s * n + s := by rw [Int.natCast_add, Int.mul_add]; simp
    have hp : 0 ≤ s * (n : Int) := Int.mul_nonneg (by omega) (by omega)
    have e2 : max (max (v - s) 0 - s * (n : Int)) 0 = max (v - s * ((n + 1 : Nat) : Int)) 0 := by omega
    rw [e2] at h1 h3
    refine ⟨max (v - s) 0 + T, ?_, by omega, ?_⟩
    · show secs u dn s n (sec u dn s (3, v, 0, mv)) = _
      rw [sec_emer, h1]
      congr 3
      omega
    · rw [dist_step h0 hv']; omega
theorem one_emer {m u dn s v mv : Int} (hm : VM m u dn s) (hd : VD m (3, v, 0, mv)) {k : Nat} (hk : 1 < k) :
    P.drive_Step.f k m u dn s 3 v 0 mv 1 = some (3, max (v - s) 0, 0, (mv + max (v - s) 0) % 1125899906842625) := by
  have h := step_few hm hd 1 (by omega) (by omega) (k := k) (by omega)
  rw [h]
  show some (sec u dn s (3, v, 0, mv)) = _
  rw [sec_emer]
end Go.Proofs.Ytaleljinebkdkaa.Pure

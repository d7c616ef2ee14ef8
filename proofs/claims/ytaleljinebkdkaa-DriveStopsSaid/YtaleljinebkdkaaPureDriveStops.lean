/- The plain law of DriveStops: the printed function answers true for all numbers. -/
import Derived.Test.YtaleljinebkdkaaDriveStop
import Derived.Test.YtaleljinebkdkaaPx29
namespace Go.Proofs.Ytaleljinebkdkaa.Pure
set_option linter.unusedVariables false
set_option linter.unusedSimpArgs false
open Go.RowKit Go.Proofs.YtaleljinebkdkaaW.PrintWords Go.Proofs.YtaleljinebkdkaaW.PrintLast Go.Proofs.YtaleljinebkdkaaW.PrintMore Go.Proofs.Ytaleljinebkdkaa
theorem stops_end {m u dn s a0 v0 t0 mv : Int} (hm : VM m u dn s) (hd : VD m (a0, v0, t0, mv)) (hx : VD m (3, v0, 0, mv)) (n i : Int) (w0 w1 w2 w3 : Int) {k : Nat} (hk : 400 ≤ k) :
    P.skiarealaw14_DriveStops.j2 k n (dist s v0) i false m u dn s a0 v0 t0 mv 3 v0 0 mv w0 w1 w2 w3 = some true := by
  obtain ⟨k, rfl⟩ : ∃ j, k = j + 1 := ⟨k - 1, by omega⟩
  have hm' := hm
  unfold VM at hm'
  have hx' := hx
  unfold VD at hx'
  simp only at hx'
  simp only [P.skiarealaw14_DriveStops.j2]
  rw [if_neg (by decide), step_few hm hx 240 (by omega) (by omega) (by omega), Option.bind_some]
  obtain ⟨T, h1, h2, h3⟩ := emer u dn (s := s) (by omega) 240 v0 mv (by omega) (by omega) (by omega) (by omega)
  rw [show ((240 : Int).toNat) = 240 from rfl, h1]
  have hz : max (v0 - s * ((240 : Nat) : Int)) 0 = 0 := by omega
  rw [hz] at h3 ⊢
  dsimp only
  rw [dist_small (by omega)] at h3
  have hle := dist_le (s := s) (v := v0) (by omega) (by omega)
  rw [if_pos rfl, far_at _ _ _ _ _ _ _ _ (by omega) (by omega) (by omega) (by omega), Option.bind_some, if_pos (by omega)]
  rw [decide_eq_true (by omega)]
theorem stops_l0 {m u dn s a0 v0 t0 mv : Int} (hm : VM m u dn s) (hd : VD m (a0, v0, t0, mv)) (hx : VD m (3, v0, 0, mv)) (n : Int) : ∀ (r k : Nat) (i v S : Int), 0 ≤ i → i + r = 300 → VD m (3, v, 0, (mv + S) % 1125899906842625) → 0 ≤ S → S + dist s v = dist s v0 → 2 * r + 500 ≤ k →
    P.skiarealaw14_DriveStops.l0 k n (dist s v0) i m u dn s a0 v0 t0 mv 3 v0 0 mv 3 v 0 ((mv + S) % 1125899906842625) = some true := by
  intro r
  induction r with
  | zero =>
    intro k i v S hi hr hv hS hSd hk
    obtain ⟨k, rfl⟩ : ∃ j, k = j + 1 := ⟨k - 1, by omega⟩
    simp only [P.skiarealaw14_DriveStops.l0]
    by_cases h : i < n
    · rw [if_pos h, decide_eq_false (by omega)]; exact stops_end hm hd hx n i _ _ _ _ (by omega)
    · rw [if_neg h]; exact stops_end hm hd hx n i _ _ _ _ (by omega)
  | succ r ih =>
    intro k i v S hi hr hv hS hSd hk
    obtain ⟨k, rfl⟩ : ∃ j, k = j + 2 := ⟨k - 2, by omega⟩
    simp only [P.skiarealaw14_DriveStops.l0]
    by_cases h : i < n
    · rw [if_pos h, decide_eq_true (by omega)]
      simp only [P.skiarealaw14_DriveStops.j2]
      have hm' := hm
      unfold VM at hm'
      have hv' := hv
      unfold VD at hv'
      simp only at hv'
      have hx' := hx
      unfold VD at hx'
      simp only at hx'
      have hstep := dist_step (s := s) (v := v) (by omega) (by omega)
      have hnn := dist_nonneg s (max (v - s) 0)
      have hle := dist_le (s := s) (v := v0) (by omega) (by omega)
      have hsmall : max (v - s) 0 ≤ s → dist s (max (v - s) 0) = 0 := fun h => dist_small h
      have hbig : s < max (v - s) 0 → 0 < dist s (max (v - s) 0) := fun h => dist_big (by omega) h
      have hnext : VD m (3, max (v - s) 0, 0, (mv + (S + max (v - s) 0)) % 1125899906842625) := VD.three (by omega) (by omega) (by omega) (by omega)
      have hfar : ((mv + (S + max (v - s) 0)) % 1125899906842625 - mv) % 1125899906842625 = S + max (v - s) 0 := by omega
      have key := ih k (i + 1) (max (v - s) 0) (S + max (v - s) 0) (by omega) (by omega) hnext (by omega) (by omega) (by omega)
      rw [if_pos trivial, one_emer hm hv (by omega), Option.bind_some]
      rw [show ((mv + S) % 1125899906842625 + max (v - s) 0) % 1125899906842625 = (mv + (S + max (v - s) 0)) % 1125899906842625 by omega]
      simp only [if_true]
      rw [if_neg (by omega), if_neg (by omega), far_at _ _ _ _ _ _ _ _ (by omega) (by omega) (by omega) (by omega), Option.bind_some, hfar, if_neg (by omega), Option.bind_some, wrap_at (x := i + 1) (by omega) (by omega)]
      by_cases hz : max (v - s) 0 = 0
      · rw [if_pos hz, if_neg, key]
        rw [beq_iff_eq.mpr (by omega)]
        decide
      · rw [if_neg hz, if_neg, key]
        by_cases hq : max (v - s) 0 ≤ s
        · rw [decide_eq_true hq, beq_iff_eq.mpr (by have := hsmall hq; omega)]; decide
        · rw [decide_eq_false hq, beq_eq_false_iff_ne.mpr (by have := hbig (by omega); omega)]; decide
    · rw [if_neg h]; exact stops_end hm hd hx n i _ _ _ _ (by omega)
theorem DriveStops (a0_0 : Int) (a0_1 : Int) (a0_2 : Int) (a0_3 : Int) (a1_0 : Int) (a1_1 : Int) (a1_2 : Int) (a1_3 : Int) (a2 : Int) (w0_0 : I64 a0_0) (w0_1 : I64 a0_1) (w0_2 : I64 a0_2) (w0_3 : I64 a0_3) (w1_0 : I64 a1_0) (w1_1 : I64 a1_1) (w1_2 : I64 a1_2) (w1_3 : I64 a1_3) (w2 : I64 a2) : ∃ k, P.skiarealaw14_DriveStops.f k a0_0 a0_1 a0_2 a0_3 a1_0 a1_1 a1_2 a1_3 a2 = some true := by
  obtain ⟨k, hk⟩ : ∃ k : Nat, k = 2000 := ⟨_, rfl⟩
  refine ⟨k + 2, ?_⟩
  unfold P.skiarealaw14_DriveStops.f
  rw [alive_at (by omega), Option.bind_some, if_pos rfl, both_at, Option.bind_some]
  by_cases h : VM a0_0 a0_1 a0_2 a0_3 ∧ VD a0_0 (a1_0, a1_1, a1_2, a1_3)
  · rw [if_pos (by simpa using h)]
    simp only [P.skiarealaw14_DriveStops.j0]
    by_cases hn : a2 < 0
    · rw [decide_eq_true hn, if_pos rfl]
    · rw [decide_eq_false hn, if_neg (by decide), dist_at h.1 h.2 (by omega)]
      unfold P.drive_Emergency.f
      simp only [Option.bind_some]
      have hx : VD a0_0 (3, a1_1, 0, a1_3) := by
        have := h.2
        unfold VD at this
        simp only at this
        exact VD.three (by omega) (by omega) (by omega) (by omega)
      have e : (a1_3 + 0) % 1125899906842625 = a1_3 := by
        unfold VD at hx
        simp only at hx
        omega
      have key := stops_l0 h.1 h.2 hx a2 300 (k + 1) 0 a1_1 0 (by omega) (by omega) (by rw [e]; exact hx) (by omega) (by omega) (by omega)
      rw [e] at key
      exact key
  · rw [if_neg (by simpa using h)]
    simp only [P.skiarealaw14_DriveStops.j0]
    rw [if_pos trivial]
end Go.Proofs.Ytaleljinebkdkaa.Pure

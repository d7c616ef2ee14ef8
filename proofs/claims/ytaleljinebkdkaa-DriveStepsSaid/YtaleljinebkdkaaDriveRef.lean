/- The reference's drive answers as the program's does. -/
import Derived.Test.YtaleljinebkdkaaDrive
import Derived.Test.YtaleljinebkdkaaPx24
import Derived.Test.YtaleljinebkdkaaPx25
import Derived.Test.YtaleljinebkdkaaPx26
namespace Go.Proofs.Ytaleljinebkdkaa.Pure
set_option linter.unusedVariables false
set_option linter.unusedSimpArgs false
open Go.RowKit Go.Proofs.YtaleljinebkdkaaW.PrintWords Go.Proofs.YtaleljinebkdkaaW.PrintLast Go.Proofs.YtaleljinebkdkaaW.PrintMore Go.Proofs.Ytaleljinebkdkaa
theorem rspeed_at {m u dn s st v t mv : Int} (hm : VM m u dn s) (hd : VD m (st, v, t, mv)) (k : Nat) : P.skiarearef14_speed.f (k + 1) m u dn s st v t mv = some (spd u dn s st v t) := by
  unfold VM at hm
  unfold VD at hd
  simp only at hd
  unfold P.skiarearef14_speed.f spd
  simp only [P.skiarearef14_speed.j0]
  rw [wrap_at (x := v + u) (by omega) (by omega), wrap_at (x := v - dn) (by omega) (by omega), wrap_at (x := v - s) (by omega) (by omega)]
  by_cases h1 : st = 1
  · simp [h1, mn_eq, mx_eq]
    split <;> rfl
  · by_cases h2 : st = 2
    · simp [h2, mx_eq]
    · by_cases h3 : st = 3
      · simp [h3, mx_eq]
      · simp [h1, h2, h3]
theorem rstep_l0 {m u dn s : Int} (hm : VM m u dn s) (N : Int) : ∀ (n k : Nat) (i : Int) (d : D4), VD m d → 0 ≤ i → i ≤ 3600 → (min (max N 0) 3600) - i = n → 2 * n + 1 < k →
    P.skiarearef14_Step.l0 k N i m u dn s d.1 d.2.1 d.2.2.1 d.2.2.2 = some (secs u dn s n d) := by
  intro n
  induction n with
  | zero =>
    intro k i d hd hi hi3 hn hk
    obtain ⟨k, rfl⟩ : ∃ j, k = j + 2 := ⟨k - 2, by omega⟩
    simp only [P.skiarearef14_Step.l0]
    by_cases h : i < N
    · rw [if_pos h, decide_eq_false (by omega)]
      simp only [P.skiarearef14_Step.j1]
      rw [if_neg (by decide)]
      rfl
    · rw [if_neg h]
      simp only [P.skiarearef14_Step.j1]
      rw [if_neg (by decide)]
      rfl
  | succ n ih =>
    intro k i d hd hi hi3 hn hk
    obtain ⟨k, rfl⟩ : ∃ j, k = j + 3 := ⟨k - 3, by omega⟩
    obtain ⟨st, v, t, mv⟩ := d
    have hs := spd_range hm hd
    have hsec := VD.sec hm hd
    simp only [P.skiarearef14_Step.l0]
    rw [if_pos (by omega), decide_eq_true (by omega)]
    simp only [P.skiarearef14_Step.j1]
    rw [if_pos trivial, rspeed_at hm hd, Option.bind_some, wrap_at (x := i + 1) (by omega) (by omega)]
    have hmv : 0 ≤ mv ∧ mv ≤ 1125899906842624 := by unfold VD at hd; simp only at hd; omega
    have hm12 : m ≤ 12000 := by unfold VM at hm; omega
    rw [moved_at hmv.1 hmv.2 hs.1 (by omega)]
    have key := ih (k + 1) (i + 1) (sec u dn s (st, v, t, mv)) hsec (by omega) (by omega) (by omega) (by omega)
    show _ = some (secs u dn s n (sec u dn s (st, v, t, mv)))
    rw [← key]
    unfold Pure.sec
    simp only
    by_cases h1 : st = 2
    · rw [if_pos h1]
      by_cases h2 : spd u dn s st v t = 0
      · rw [if_pos h2, if_pos ⟨h1, h2⟩]
      · rw [if_neg h2, if_neg (fun h => h2 h.2)]
    · rw [if_neg h1, if_neg (fun h => h1 h.1)]
theorem rstep_at {m u dn s : Int} (hm : VM m u dn s) {d : D4} (hd : VD m d) (n : Int) {k : Nat} (hk : 7201 < k) :
    P.skiarearef14_Step.f k m u dn s d.1 d.2.1 d.2.2.1 d.2.2.2 n = some (secs u dn s (min (max n 0) 3600).toNat d) := by
  unfold P.skiarearef14_Step.f
  exact rstep_l0 hm _ _ k 0 d hd (by omega) (by omega) (by omega) (by omega)
theorem rdist_eq (m u dn s : Int) : ∀ (k : Nat) (a v : Int), P.skiarearef14_Distance.l0 k a v m u dn s = P.drive_Distance.l0 k a v m u dn s
  | 0, _, _ => rfl
  | k + 1, a, v => by
    simp only [P.skiarearef14_Distance.l0, P.drive_Distance.l0]
    rw [rdist_eq m u dn s k]
theorem rdist_at {m u dn s : Int} (hm : VM m u dn s) {st v t mv : Int} (hd : VD m (st, v, t, mv)) {k : Nat} (hk : 240 < k) : P.skiarearef14_Distance.f k m u dn s st v t mv = some (dist s v) := by
  unfold P.skiarearef14_Distance.f
  rw [rdist_eq]
  exact dist_at hm hd hk
end Go.Proofs.Ytaleljinebkdkaa.Pure

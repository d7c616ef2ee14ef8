/- The drive in plain Lean: a second, many seconds, the way of an emergency stop; what the printed functions answer. -/
import Derived.Test.YtaleljinebkdkaaOpen
import Derived.Test.YtaleljinebkdkaaPx10
import Derived.Test.YtaleljinebkdkaaPx11
import Derived.Test.YtaleljinebkdkaaPx12
import Derived.Test.YtaleljinebkdkaaPx14
import Derived.Test.YtaleljinebkdkaaPx15
import Derived.Test.YtaleljinebkdkaaPx16
import Derived.Test.YtaleljinebkdkaaPx18
import Derived.Test.YtaleljinebkdkaaPx2
import Derived.Test.YtaleljinebkdkaaPx3
import Derived.Test.YtaleljinebkdkaaPx4
import Derived.Test.YtaleljinebkdkaaPx5
import Derived.Test.YtaleljinebkdkaaPx6
import Derived.Test.YtaleljinebkdkaaPx7
import Derived.Test.YtaleljinebkdkaaPx8
namespace Go.Proofs.Ytaleljinebkdkaa.Pure
set_option linter.unusedVariables false
set_option linter.unusedSimpArgs false
open Go.RowKit Go.Proofs.YtaleljinebkdkaaW.PrintWords Go.Proofs.YtaleljinebkdkaaW.PrintLast Go.Proofs.YtaleljinebkdkaaW.PrintMore Go.Proofs.Ytaleljinebkdkaa
abbrev D4 := Int × Int × Int × Int
def spd (u dn s st v t : Int) : Int :=
  if st = 1 then (if v < t then min (v + u) t else max (v - dn) t) else if st = 2 then max (v - dn) 0 else if st = 3 then max (v - s) 0 else v
def sec (u dn s : Int) (d : D4) : D4 :=
  (if d.1 = 2 ∧ spd u dn s d.1 d.2.1 d.2.2.1 = 0 then 0 else d.1, spd u dn s d.1 d.2.1 d.2.2.1, d.2.2.1, (d.2.2.2 + spd u dn s d.1 d.2.1 d.2.2.1) % 1125899906842625)
def secs (u dn s : Int) : Nat → D4 → D4
  | 0, d => d
  | n + 1, d => secs u dn s n (sec u dn s d)
theorem secs_add (u dn s : Int) : ∀ (a b : Nat) (d : D4), secs u dn s (a + b) d = secs u dn s b (secs u dn s a d)
  | 0, b, d => by simp [secs]
  | a + 1, b, d => by
    rw [show a + 1 + b = (a + b) + 1 by omega]
    show secs u dn s (a + b) (sec u dn s d) = secs u dn s b (secs u dn s a (sec u dn s d))
    exact secs_add u dn s a b _
/-- A motor is valid. -/
def VM (m u dn s : Int) : Prop := 500 ≤ m ∧ m ≤ 12000 ∧ 50 ≤ u ∧ u ≤ 2000 ∧ 50 ≤ dn ∧ dn ≤ 2000 ∧ dn ≤ s ∧ s ≤ 5000
/-- A drive is valid for a motor. -/
def VD (m : Int) (d : D4) : Prop := 0 ≤ d.1 ∧ d.1 ≤ 3 ∧ 0 ≤ d.2.1 ∧ d.2.1 ≤ m ∧ 0 ≤ d.2.2.2 ∧ d.2.2.2 ≤ 1125899906842624 ∧ (d.1 ≠ 0 ∨ d.2.1 = 0) ∧ (d.1 ≠ 1 ∨ (1 ≤ d.2.2.1 ∧ d.2.2.1 ≤ m)) ∧ (d.1 = 1 ∨ d.2.2.1 = 0)
instance (m u dn s : Int) : Decidable (VM m u dn s) := by unfold VM; infer_instance
instance (m : Int) (d : D4) : Decidable (VD m d) := by unfold VD; infer_instance
theorem spd_range {m u dn s : Int} {st v t mv : Int} (hm : VM m u dn s) (hd : VD m (st, v, t, mv)) : 0 ≤ spd u dn s st v t ∧ spd u dn s st v t ≤ m := by
  unfold VM at hm
  unfold VD at hd
  simp only at hd
  unfold spd
  by_cases h1 : st = 1
  · rw [if_pos h1]
    by_cases h2 : v < t
    · rw [if_pos h2]; omega
    · rw [if_neg h2]; omega
  · rw [if_neg h1]
    by_cases h2 : st = 2
    · rw [if_pos h2]; omega
    · rw [if_neg h2]
      by_cases h3 : st = 3
      · rw [if_pos h3]; omega
      · rw [if_neg h3]; omega
theorem VD.sec {m u dn s : Int} {d : D4} (hm : VM m u dn s) (hd : VD m d) : VD m (sec u dn s d) := by
  obtain ⟨st, v, t, mv⟩ := d
  have hr := spd_range hm hd
  unfold Pure.sec
  simp only
  generalize hv : spd u dn s st v t = v' at hr ⊢
  unfold VD at hd ⊢
  simp only at hd ⊢
  have h0 : st = 0 → v' = 0 := by
    intro h
    subst h
    rw [← hv]
    unfold spd
    simp
    omega
  by_cases h : st = 2 ∧ v' = 0
  · rw [if_pos h]; omega
  · rw [if_neg h]; omega
theorem VD.secs {m u dn s : Int} (hm : VM m u dn s) : ∀ (n : Nat) {d : D4}, VD m d → VD m (secs u dn s n d)
  | 0, _, h => h
  | n + 1, _, h => VD.secs hm n (VD.sec hm h)
theorem wrap_at {x : Int} (h : -9223372036854775808 ≤ x) (h' : x ≤ 9223372036854775807) : wrap64 x = x := by unfold wrap64; omega
theorem mn_eq (a b : Int) : mn a b = min a b := by unfold mn; omega
theorem mx_eq (a b : Int) : mx a b = max a b := by unfold mx; omega

theorem speed_at {m u dn s st v t mv : Int} (hm : VM m u dn s) (hd : VD m (st, v, t, mv)) : P.drive_speed.f m u dn s st v t mv = some (spd u dn s st v t) := by
  unfold VM at hm
  unfold VD at hd
  simp only at hd
  unfold P.drive_speed.f P.drive_action.f spd
  rw [wrap_at (x := v + u) (by omega) (by omega), wrap_at (x := v - dn) (by omega) (by omega), wrap_at (x := v - s) (by omega) (by omega)]
  by_cases h1 : st = 1
  · simp [h1, mn_eq, mx_eq]
    split <;> rfl
  · by_cases h2 : st = 2
    · simp [h2, mx_eq]
    · by_cases h3 : st = 3
      · simp [h3, mx_eq]
      · simp [h1, h2, h3]
theorem moved_at {mv v : Int} (h0 : 0 ≤ mv) (h1 : mv ≤ 1125899906842624) (h2 : 0 ≤ v) (h3 : v ≤ 12000) : Int.tmod (wrap64 (mv + v)) 1125899906842625 = (mv + v) % 1125899906842625 := by
  rw [wrap_at (by omega) (by omega), Int.tmod_eq_emod_of_nonneg (by omega)]
theorem step_l0 {m u dn s : Int} (hm : VM m u dn s) (N : Int) (hN : N ≤ 3600) : ∀ (n k : Nat) (i : Int) (d : D4), VD m d → 0 ≤ i → N - i = n → n < k →
    P.drive_Step.l0 k N i m u dn s d.1 d.2.1 d.2.2.1 d.2.2.2 = some (secs u dn s n d) := by
  intro n
  induction n with
  | zero =>
    intro k i d hd hi hn hk
    obtain ⟨k, rfl⟩ : ∃ j, k = j + 1 := ⟨k - 1, by omega⟩
    simp only [P.drive_Step.l0]
    rw [if_neg (by omega)]
    rfl
  | succ n ih =>
    intro k i d hd hi hn hk
    obtain ⟨k, rfl⟩ : ∃ j, k = j + 1 := ⟨k - 1, by omega⟩
    obtain ⟨st, v, t, mv⟩ := d
    have hs := spd_range hm hd
    have hsec := VD.sec hm hd
    simp only [P.drive_Step.l0]
    rw [if_pos (by omega), speed_at hm hd, Option.bind_some, wrap_at (x := i + 1) (by omega) (by omega)]
    have hmv : 0 ≤ mv ∧ mv ≤ 1125899906842624 := by unfold VD at hd; simp only at hd; omega
    have hm12 : m ≤ 12000 := by unfold VM at hm; omega
    rw [moved_at hmv.1 hmv.2 hs.1 (by omega)]
    have key := ih k (i + 1) (sec u dn s (st, v, t, mv)) hsec (by omega) (by omega) (by omega)
    show _ = some (secs u dn s n (sec u dn s (st, v, t, mv)))
    rw [← key]
    unfold Pure.sec
    simp only
    by_cases h1 : st = 2
    · rw [if_pos h1]
      by_cases h2 : spd u dn s st v t = 0
      · rw [if_pos h2, if_pos ⟨h1, h2⟩]
      · rw [if_neg h2, if_neg (fun h => h2 h.2)]
    · rw [if_neg h1, if_neg (fun h => h1 h.1)]
theorem step_at {m u dn s : Int} (hm : VM m u dn s) {d : D4} (hd : VD m d) (n : Int) {k : Nat} (hk : 3600 < k) :
    P.drive_Step.f k m u dn s d.1 d.2.1 d.2.2.1 d.2.2.2 n = some (secs u dn s (min (max n 0) 3600).toNat d) := by
  unfold P.drive_Step.f
  rw [mn_eq, mx_eq]
  exact step_l0 hm _ (by omega) _ k 0 d hd (by omega) (by omega) (by omega)
theorem step_few {m u dn s : Int} (hm : VM m u dn s) {d : D4} (hd : VD m d) (n : Int) (h0 : 0 ≤ n) (h1 : n ≤ 3600) {k : Nat} (hk : n < k) :
    P.drive_Step.f k m u dn s d.1 d.2.1 d.2.2.1 d.2.2.2 n = some (secs u dn s n.toNat d) := by
  unfold P.drive_Step.f
  rw [mn_eq, mx_eq]
  exact step_l0 hm _ (by omega) _ k 0 d hd (by omega) (by omega) (by omega)
/-- The way of an emergency stop, from the speed after its first second on. -/
def way (s : Int) : Nat → Int → Int
  | 0, _ => 0
  | n + 1, v => if v > 0 then v + way s n (v - s) else 0
theorem way_nonneg (s : Int) : ∀ (n : Nat) (v : Int), 0 ≤ way s n v
  | 0, _ => by simp [way]
  | n + 1, v => by
    unfold way
    have := way_nonneg s n (v - s)
    split <;> omega
theorem way_zero {s : Int} : ∀ (n : Nat) {v : Int}, v ≤ 0 → way s n v = 0
  | 0, _, _ => rfl
  | n + 1, v, h => by unfold way; rw [if_neg (by omega)]
/-- More rounds than are needed change nothing. -/
theorem way_more {s : Int} (hs : 0 ≤ s) : ∀ (n : Nat) (v : Int), v ≤ s * n → way s (n + 1) v = way s n v
  | 0, v, h => by simp at h; unfold way; rw [if_neg (by omega)]
  | n + 1, v, h => by
    show (if v > 0 then v + way s (n + 1) (v - s) else 0) = (if v > 0 then v + way s n (v - s) else 0)
    by_cases hv : v > 0
    · rw [if_pos hv, if_pos hv, way_more hs n (v - s) (by
        have : s * ((n + 1 : Nat) : Int) = s * n + s := by rw [Int.natCast_add, Int.mul_add]; simp
        omega)]
    · rw [if_neg hv, if_neg hv]
theorem dist_l0 {m u dn s : Int} (h0 : 50 ≤ s) (h1 : s ≤ 5000) : ∀ (n k : Nat) (acc v : Int), v ≤ 50 * n → v ≤ 12000 → 0 ≤ acc → acc ≤ 9000000000000000000 - 12000 * n → -20000 ≤ v → n < k →
    P.drive_Distance.l0 k acc v m u dn s = some (acc + way s n v) := by
  intro n
  induction n with
  | zero =>
    intro k acc v hv hv2 ha ha2 hv3 hk
    obtain ⟨k, rfl⟩ : ∃ j, k = j + 1 := ⟨k - 1, by omega⟩
    simp only [P.drive_Distance.l0]
    rw [if_neg (by omega)]
    simp [way]
  | succ n ih =>
    intro k acc v hv hv2 ha ha2 hv3 hk
    obtain ⟨k, rfl⟩ : ∃ j, k = j + 1 := ⟨k - 1, by omega⟩
    simp only [P.drive_Distance.l0]
    unfold way
    by_cases h : v > 0
    · rw [if_pos h, if_pos h, wrap_at (by omega) (by omega), wrap_at (by omega) (by omega), ih k (acc + v) (v - s) (by omega) (by omega) (by omega) (by omega) (by omega) (by omega), Int.add_assoc]
    · rw [if_neg h, if_neg h, Int.add_zero]
/-- Distance. -/
def dist (s v : Int) : Int := way s 240 (v - s)
theorem dist_at {m u dn s : Int} (hm : VM m u dn s) {st v t mv : Int} (hd : VD m (st, v, t, mv)) {k : Nat} (hk : 240 < k) : P.drive_Distance.f k m u dn s st v t mv = some (dist s v) := by
  unfold VM at hm
  unfold VD at hd
  simp only at hd
  unfold P.drive_Distance.f dist
  rw [wrap_at (by omega) (by omega), dist_l0 (by omega) (by omega) 240 k 0 (v - s) (by omega) (by omega) (by omega) (by omega) (by omega) hk, Int.zero_add]
/-! ### Right, Valid -/
theorem in_at (a b c : Int) : P.drive_in.f a b c = some (decide (b ≤ a ∧ a ≤ c)) := by
  unfold P.drive_in.f
  by_cases h : a ≥ b
  · rw [if_pos h]; congr 1; simp only [decide_eq_decide]; omega
  · rw [if_neg h]; congr 1; symm; rw [decide_eq_false_iff_not]; omega
theorem sbd {a : Bool} {p : Prop} [Decidable p] (h : a = true ↔ p) : some a = some (decide p) := congrArg some (Bool.eq_iff_iff.mpr (h.trans (decide_eq_true_iff (p := p)).symm))
theorem right_at (m u dn s : Int) : P.drive_Right.f m u dn s = some (decide (VM m u dn s)) := by
  unfold P.drive_Right.f
  simp only [in_at, Option.bind_some]
  repeat' split
  all_goals (refine sbd ?_; (try unfold VM); (try unfold VD); simp only [decide_eq_true_eq, Bool.false_eq_true, false_iff] at *; omega)
theorem rright_at (m u dn s : Int) : P.skiarearef14_Right.f m u dn s = some (decide (VM m u dn s)) := by
  unfold P.skiarearef14_Right.f
  repeat' split
  all_goals (refine sbd ?_; (try unfold VM); (try unfold VD); simp only [decide_eq_true_eq, Bool.false_eq_true, false_iff] at *; omega)
theorem valid_at (m u dn s st v t mv : Int) (k : Nat) : P.drive_Valid.f (k + 2) m u dn s st v t mv = some (decide (VD m (st, v, t, mv))) := by
  unfold P.drive_Valid.f
  simp only [P.drive_Valid.j0, P.drive_Valid.j1, in_at, Option.bind_some]
  repeat' split
  all_goals (refine sbd ?_; (try unfold VM); (try unfold VD); simp only [decide_eq_true_eq, Bool.false_eq_true, false_iff, Bool.not_eq_true', decide_eq_false_iff_not, bne_iff_ne, beq_iff_eq, ne_eq, Bool.not_eq_true, not_true_eq_false, not_false_eq_true] at *)
  all_goals omega
theorem rvalid_j0 (m u dn s st v t mv : Int) (k : Nat) (b : Bool) : P.skiarearef14_Valid.j0 (k + 2) b m u dn s st v t mv = some (!b && decide ((st ≠ 0 ∨ v = 0) ∧ (st ≠ 1 ∨ (1 ≤ t ∧ t ≤ m)) ∧ (st = 1 ∨ t = 0))) := by
  simp only [P.skiarearef14_Valid.j0, P.skiarearef14_Valid.j1]
  cases b
  · rw [if_neg (by decide)]
    repeat' split
    all_goals (refine sbd ?_; (try unfold VM); (try unfold VD); simp only [decide_eq_true_eq, Bool.false_eq_true, false_iff, Bool.not_eq_true', decide_eq_false_iff_not, bne_iff_ne, beq_iff_eq, ne_eq, Bool.not_eq_true, Bool.not_false, Bool.true_and] at *)
    all_goals omega
  · rw [if_pos rfl]; rfl
theorem rvalid_at (m u dn s st v t mv : Int) (k : Nat) : P.skiarearef14_Valid.f (k + 2) m u dn s st v t mv = some (decide (VD m (st, v, t, mv))) := by
  unfold P.skiarearef14_Valid.f
  simp only [rvalid_j0]
  repeat' split
  all_goals (refine sbd ?_; (try unfold VM); (try unfold VD); simp only [decide_eq_true_eq, Bool.and_eq_true, Bool.false_eq_true, false_iff, Bool.not_eq_true', decide_eq_false_iff_not, Bool.not_true, Bool.false_and, false_and, Bool.not_false, true_and] at *)
  all_goals omega
theorem both_at (m u dn s st v t mv : Int) (k : Nat) : P.skiarealaw14_valid.f (k + 2) m u dn s st v t mv = some (decide (VM m u dn s ∧ VD m (st, v, t, mv))) := by
  unfold P.skiarealaw14_valid.f
  simp only [rright_at, Option.bind_some, rvalid_at]
  by_cases h : VM m u dn s <;> simp [h]
theorem alive_at {k : Nat} (hk : 20 ≤ k) : P.skiarealaw14_alive.f k = some true := by
  refine at_rounds (g := P.skiarealaw14_alive.f) P.skiarealaw14_alive.mono hk ?_
  decide +kernel
end Go.Proofs.Ytaleljinebkdkaa.Pure

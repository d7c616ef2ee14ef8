/- The rope in plain Lean: positions, rights, people; what the printed functions of the program and of the reference answer. -/
import Derived.Test.YtkehcgjdgfopdaaOpen
import Derived.Test.YtkehcgjdgfopdaaPx1
import Derived.Test.YtkehcgjdgfopdaaPx12
import Derived.Test.YtkehcgjdgfopdaaPx13
import Derived.Test.YtkehcgjdgfopdaaPx14
import Derived.Test.YtkehcgjdgfopdaaPx15
import Derived.Test.YtkehcgjdgfopdaaPx16
import Derived.Test.YtkehcgjdgfopdaaPx3
import Derived.Test.YtkehcgjdgfopdaaPx4
namespace Go.Proofs.Ytkehcgjdgfopdaa.Pure
set_option linter.unusedVariables false
set_option linter.unusedSimpArgs false
open Go.RowKit Go.Proofs.YtkehcgjdgfopdaaW.PrintWords Go.Proofs.YtkehcgjdgfopdaaW.PrintLast Go.Proofs.YtkehcgjdgfopdaaW.PrintMore Go.Proofs.Ytkehcgjdgfopdaa
theorem wrap_at {x : Int} (h : -9223372036854775808 ≤ x) (h' : x ≤ 9223372036854775807) : wrap64 x = x := by unfold wrap64; omega
theorem in_at (a b c : Int) : P.rope_in.f a b c = some (decide (b ≤ a ∧ a ≤ c)) := by
  unfold P.rope_in.f
  by_cases h : a ≥ b
  · rw [if_pos h]; congr 1; simp only [decide_eq_decide]; omega
  · rw [if_neg h]; congr 1; symm; rw [decide_eq_false_iff_not]; omega
theorem alive_at {k : Nat} (hk : 60 ≤ k) : P.skiarealaw17_alive.f k = some true := by
  refine at_rounds (g := P.skiarealaw17_alive.f) P.skiarealaw17_alive.mono hk ?_
  decide +kernel
/-- The position of carrier i. -/
def pos (lp sp off i : Int) : Int := (off + i * sp) % lp
/-- The form of a line. -/
def VL (lp sp off : Int) (n : Nat) : Prop := 5000 ≤ sp ∧ sp ≤ 1000000 ∧ 1 ≤ n ∧ n ≤ 200 ∧ lp = sp * n ∧ lp % 2 = 0 ∧ 0 ≤ off ∧ off < lp
instance (lp sp off : Int) (n : Nat) : Decidable (VL lp sp off n) := by unfold VL; infer_instance
theorem VL.bounds {lp sp off : Int} {n : Nat} (h : VL lp sp off n) : 5000 ≤ lp ∧ lp ≤ 200000000 ∧ sp ≤ lp := by
  unfold VL at h
  obtain ⟨h1, h2, h3, h4, h5, _⟩ := h
  have e1 : sp * 1 ≤ sp * (n : Int) := Int.mul_le_mul_of_nonneg_left (by omega) (by omega)
  have e2 : sp * (n : Int) ≤ sp * 200 := Int.mul_le_mul_of_nonneg_left (by omega) (by omega)
  omega
theorem mul_small {sp i : Int} (h1 : 0 ≤ sp) (h2 : sp ≤ 1000000) (h3 : 0 ≤ i) (h4 : i ≤ 250) : 0 ≤ i * sp ∧ i * sp ≤ 250000000 := by
  have e1 : 0 ≤ i * sp := Int.mul_nonneg h3 h1
  have e2 : i * sp ≤ 250 * sp := Int.mul_le_mul_of_nonneg_right h4 h1
  omega
theorem pos_range {lp sp off : Int} {n : Nat} (h : VL lp sp off n) (i : Int) : 0 ≤ pos lp sp off i ∧ pos lp sp off i < lp := by
  have := h.bounds
  unfold pos
  exact ⟨Int.emod_nonneg _ (by omega), Int.emod_lt_of_pos _ (by omega)⟩
theorem at_in {lp sp off : Int} {l : List Int} (h : VL lp sp off l.length) {i : Int} (h0 : 0 ≤ i) (h1 : i < (l.length : Int)) : P.rope_At.f lp sp off l i = some (pos lp sp off i) := by
  have hb := h.bounds
  unfold VL at h
  have hm := mul_small (sp := sp) (i := i) (by omega) (by omega) h0 (by omega)
  unfold P.rope_At.f pos
  rw [wrap_at (x := (l.length : Int) - 1) (by omega) (by omega), in_at, Option.bind_some, decide_eq_true (by omega), if_pos rfl, if_neg (by omega), wrap_at (x := i * sp) (by omega) (by omega), wrap_at (x := off + i * sp) (by omega) (by omega), Int.tmod_eq_emod_of_nonneg (by omega)]
theorem at_out {lp sp off : Int} {l : List Int} (hl : l.length ≤ 9223372036854775807) {i : Int} (h : i < 0 ∨ (l.length : Int) ≤ i) : P.rope_At.f lp sp off l i = some (-1) := by
  unfold P.rope_At.f
  rw [wrap_at (x := (l.length : Int) - 1) (by omega) (by omega), in_at, Option.bind_some, decide_eq_false (by omega), if_neg (by decide)]
theorem rat_in {lp sp off : Int} {l : List Int} (h : VL lp sp off l.length) {i : Int} (h0 : 0 ≤ i) (h1 : i < (l.length : Int)) : P.skiarearef17_At.f lp sp off l i = some (pos lp sp off i) := by
  have hb := h.bounds
  unfold VL at h
  have hm := mul_small (sp := sp) (i := i) (by omega) (by omega) h0 (by omega)
  unfold P.skiarearef17_At.f pos
  rw [if_neg (by omega), if_neg (by omega), if_neg (by omega), wrap_at (x := i * sp) (by omega) (by omega), wrap_at (x := off + i * sp) (by omega) (by omega), Int.tmod_eq_emod_of_nonneg (by omega)]
theorem rat_out {lp sp off : Int} {l : List Int} {i : Int} (h : i < 0 ∨ (l.length : Int) ≤ i) : P.skiarearef17_At.f lp sp off l i = some (-1) := by
  unfold P.skiarearef17_At.f
  by_cases h0 : i < 0
  · rw [if_pos h0]
  · rw [if_neg h0, if_pos (by omega)]
/-- What holds of each carrier of a right line. -/
def okc (lp sp off : Int) (l : List Int) (seats : Int) (i : Nat) : Bool := decide (0 ≤ l.getD i 0 ∧ l.getD i 0 ≤ seats ∧ (pos lp sp off i < lp / 2 ∨ l.getD i 0 = 0))
def allF (p : Nat → Bool) : Nat → Nat → Bool
  | 0, _ => true
  | n + 1, i => p i && allF p n (i + 1)
theorem allF_iff (p : Nat → Bool) : ∀ (n i : Nat), allF p n i = true ↔ ∀ j, i ≤ j → j < i + n → p j = true
  | 0, i => by simp only [allF, true_iff]; intro j h1 h2; omega
  | n + 1, i => by
    rw [allF, Bool.and_eq_true, allF_iff p n (i + 1)]
    constructor
    · rintro ⟨h1, h2⟩ j h3 h4
      rcases Nat.eq_or_lt_of_le h3 with h5 | h5
      · subst h5; exact h1
      · exact h2 j h5 (by omega)
    · intro h
      exact ⟨h i (by omega) (by omega), fun j h3 h4 => h j (by omega) (by omega)⟩
theorem rd_nat (l : List Int) (i : Nat) : rd l (i : Int) = l.getD i 0 := by unfold rd; rw [Int.toNat_natCast]
theorem half_at {lp : Int} (h : 0 ≤ lp) (h' : lp ≤ 9223372036854775807) : wrap64 (Int.tdiv lp 2) = lp / 2 := by
  rw [Int.tdiv_eq_ediv_of_nonneg h, wrap_at (by omega) (by omega)]
theorem right_l0 {lp sp off : Int} {l : List Int} (h : VL lp sp off l.length) (seats : Int) : ∀ (n i k : Nat), i + n = l.length → n < k →
    P.rope_Right.l0 k seats l (l.length : Int) (i : Int) lp sp off l = some (allF (okc lp sp off l seats) n i) := by
  have hb := h.bounds
  have hn : l.length ≤ 200 := by unfold VL at h; omega
  intro n
  induction n with
  | zero =>
    intro i k hi hk
    obtain ⟨k, rfl⟩ : ∃ j, k = j + 1 := ⟨k - 1, by omega⟩
    rw [P.rope_Right.l0, if_neg (by omega)]
    rfl
  | succ n ih =>
    intro i k hi hk
    obtain ⟨k, rfl⟩ : ∃ j, k = j + 1 := ⟨k - 1, by omega⟩
    have key := ih (i + 1) k (by omega) (by omega)
    rw [P.rope_Right.l0, if_pos (by omega), if_pos (by omega), if_pos (by omega), in_at, Option.bind_some, rd_nat, at_in h (by omega) (by omega), wrap_at (x := (i : Int) + 1) (by omega) (by omega), half_at (by omega) (by omega), show ((i : Int) + 1) = ((i + 1 : Nat) : Int) by omega, key, Option.bind_some]
    rw [allF, okc]
    generalize allF (okc lp sp off l seats) n (i + 1) = b
    by_cases h1 : 0 ≤ l.getD i 0 ∧ l.getD i 0 ≤ seats
    · rw [decide_eq_true h1, if_pos rfl]
      by_cases h2 : l.getD i 0 = 0
      · rw [if_pos h2, decide_eq_true (by omega), Bool.true_and]
      · rw [if_neg h2]
        by_cases h3 : pos lp sp off i ≥ lp / 2
        · rw [if_pos h3, decide_eq_false (by omega), Bool.false_and]
        · rw [if_neg h3, decide_eq_true (by omega), Bool.true_and]
    · rw [decide_eq_false h1, if_neg (by decide), decide_eq_false (by omega), Bool.false_and]
theorem rright_l0 {lp sp off : Int} {l : List Int} (h : VL lp sp off l.length) (seats : Int) : ∀ (n i k : Nat), i + n = l.length → 2 * n < k →
    P.skiarearef17_Right.l0 k seats (i : Int) lp sp off l = some (allF (okc lp sp off l seats) n i) := by
  have hb := h.bounds
  have hn : l.length ≤ 200 := by unfold VL at h; omega
  intro n
  induction n with
  | zero =>
    intro i k hi hk
    obtain ⟨k, rfl⟩ : ∃ j, k = j + 1 := ⟨k - 1, by omega⟩
    rw [P.skiarearef17_Right.l0, if_neg (by omega)]
    rfl
  | succ n ih =>
    intro i k hi hk
    obtain ⟨k, rfl⟩ : ∃ j, k = j + 2 := ⟨k - 2, by omega⟩
    have key := ih (i + 1) k (by omega) (by omega)
    have hj : ∀ c : Bool, P.skiarearef17_Right.j2 (k + 1) seats (i : Int) c lp sp off l = if c = true then some false else some (allF (okc lp sp off l seats) n (i + 1)) := by
      intro c
      rw [P.skiarearef17_Right.j2, wrap_at (x := (i : Int) + 1) (by omega) (by omega), show ((i : Int) + 1) = ((i + 1 : Nat) : Int) by omega, key]
    rw [P.skiarearef17_Right.l0, if_pos (by omega), if_pos (by omega), rd_nat, rat_in h (by omega) (by omega), half_at (by omega) (by omega), Option.bind_some]
    simp only [hj]
    rw [allF, okc]
    generalize allF (okc lp sp off l seats) n (i + 1) = b
    by_cases h0 : l.getD i 0 < 0
    · rw [if_pos h0, if_pos trivial, decide_eq_false (by omega), Bool.false_and]
    · rw [if_neg h0]
      by_cases h1 : l.getD i 0 > seats
      · rw [if_pos h1, if_pos trivial, decide_eq_false (by omega), Bool.false_and]
      · rw [if_neg h1]
        by_cases h3 : pos lp sp off i ≥ lp / 2
        · rw [if_pos h3]
          by_cases h2 : l.getD i 0 = 0
          · rw [if_neg (by rw [h2]; decide), decide_eq_true (by omega), Bool.true_and]
          · rw [if_pos (bne_iff_ne.mpr h2), decide_eq_false (by omega), Bool.false_and]
        · rw [if_neg h3, if_neg (by decide), decide_eq_true (by omega), Bool.true_and]
/-- A right line. -/
def RL (lp sp off : Int) (l : List Int) (seats : Int) : Prop := VL lp sp off l.length ∧ allF (okc lp sp off l seats) l.length 0 = true
instance (lp sp off : Int) (l : List Int) (seats : Int) : Decidable (RL lp sp off l seats) := by unfold RL; infer_instance
theorem right_at {lp sp off : Int} {l : List Int} (hl : l.length ≤ 250) (w0 : I64 lp) (w1 : I64 sp) (w2 : I64 off) (seats : Int) {k : Nat} (hk : 260 ≤ k) : P.rope_Right.f k lp sp off l seats = some (decide (RL lp sp off l seats)) := by
  obtain ⟨k, rfl⟩ : ∃ j, k = j + 1 := ⟨k - 1, by omega⟩
  have b0 := w0.b
  have b1 := w1.b
  have b2 := w2.b
  unfold P.rope_Right.f
  simp only [in_at, Option.bind_some]
  have bad : ¬ VL lp sp off l.length → P.rope_Right.j0 (k + 1) seats true lp sp off l = some (decide (RL lp sp off l seats)) := by
    intro h
    rw [P.rope_Right.j0, if_pos rfl, decide_eq_false (fun h' => h h'.1)]
  by_cases h1 : 5000 ≤ sp ∧ sp ≤ 1000000
  · rw [decide_eq_true h1, if_pos rfl]
    by_cases h2 : 1 ≤ (l.length : Int) ∧ (l.length : Int) ≤ 200
    · have hm := mul_small (sp := sp) (i := (l.length : Int)) (by omega) (by omega) (by omega) (by omega)
      rw [Int.mul_comm] at hm
      rw [decide_eq_true h2, if_pos rfl, wrap_at (x := sp * (l.length : Int)) (by omega) (by omega)]
      by_cases h3 : lp = sp * (l.length : Int)
      · rw [if_pos h3, Int.tmod_eq_emod_of_nonneg (by omega)]
        by_cases h4 : lp % 2 = 0
        · rw [if_pos h4, wrap_at (x := lp - 1) (by omega) (by omega)]
          by_cases h5 : 0 ≤ off ∧ off ≤ lp - 1
          · have hv : VL lp sp off l.length := ⟨by omega, by omega, by omega, by omega, h3, h4, by omega, by omega⟩
            rw [decide_eq_true h5, P.rope_Right.j0, if_neg (by decide)]
            have := right_l0 hv seats l.length 0 k (by omega) (by omega)
            rw [Int.natCast_zero] at this
            rw [this]
            congr 1
            rw [Bool.eq_iff_iff, decide_eq_true_iff]
            exact ⟨fun h => ⟨hv, h⟩, fun h => h.2⟩
          · rw [decide_eq_false h5]
            exact bad (fun hv => h5 (by unfold VL at hv; omega))
        · rw [if_neg h4]; exact bad (fun hv => h4 (by unfold VL at hv; omega))
      · rw [if_neg h3]; exact bad (fun hv => h3 hv.2.2.2.2.1)
    · rw [decide_eq_false h2, if_neg (by decide)]; exact bad (fun hv => h2 (by unfold VL at hv; omega))
  · rw [decide_eq_false h1, if_neg (by decide)]; exact bad (fun hv => h1 (by unfold VL at hv; omega))
theorem rright_at {lp sp off : Int} {l : List Int} (hl : l.length ≤ 250) (w0 : I64 lp) (w1 : I64 sp) (w2 : I64 off) (seats : Int) {k : Nat} (hk : 450 ≤ k) : P.skiarearef17_Right.f k lp sp off l seats = some (decide (RL lp sp off l seats)) := by
  obtain ⟨k, rfl⟩ : ∃ j, k = j + 1 := ⟨k - 1, by omega⟩
  have b0 := w0.b
  have b1 := w1.b
  have b2 := w2.b
  unfold P.skiarearef17_Right.f
  have bad : ¬ VL lp sp off l.length → P.skiarearef17_Right.j0 (k + 1) seats true lp sp off l = some (decide (RL lp sp off l seats)) := by
    intro h
    rw [P.skiarearef17_Right.j0, if_pos rfl, decide_eq_false (fun h' => h h'.1)]
  by_cases h1 : sp < 5000
  · rw [if_pos h1]; exact bad (fun hv => by unfold VL at hv; omega)
  rw [if_neg h1]
  by_cases h1' : sp > 1000000
  · rw [if_pos h1']; exact bad (fun hv => by unfold VL at hv; omega)
  rw [if_neg h1']
  by_cases h2 : (l.length : Int) < 1
  · rw [if_pos h2]; exact bad (fun hv => by unfold VL at hv; omega)
  rw [if_neg h2]
  by_cases h2' : (l.length : Int) > 200
  · rw [if_pos h2']; exact bad (fun hv => by unfold VL at hv; omega)
  rw [if_neg h2']
  have hm := mul_small (sp := sp) (i := (l.length : Int)) (by omega) (by omega) (by omega) (by omega)
  rw [Int.mul_comm] at hm
  rw [wrap_at (x := sp * (l.length : Int)) (by omega) (by omega)]
  by_cases h3 : lp = sp * (l.length : Int)
  · rw [if_pos h3, Int.tmod_eq_emod_of_nonneg (by omega)]
    by_cases h4 : lp % 2 = 0
    · rw [if_pos h4]
      by_cases h5 : off < 0
      · rw [if_pos h5]; exact bad (fun hv => by unfold VL at hv; omega)
      · rw [if_neg h5]
        by_cases h6 : off ≥ lp
        · rw [decide_eq_true h6]; exact bad (fun hv => by unfold VL at hv; omega)
        · have hv : VL lp sp off l.length := ⟨by omega, by omega, by omega, by omega, h3, h4, by omega, by omega⟩
          rw [decide_eq_false h6, P.skiarearef17_Right.j0, if_neg (by decide)]
          have := rright_l0 hv seats l.length 0 k (by omega) (by omega)
          rw [Int.natCast_zero] at this
          rw [this]
          congr 1
          rw [Bool.eq_iff_iff, decide_eq_true_iff]
          exact ⟨fun h => ⟨hv, h⟩, fun h => h.2⟩
    · rw [if_neg h4]; exact bad (fun hv => h4 (by unfold VL at hv; omega))
  · rw [if_neg h3]; exact bad (fun hv => h3 hv.2.2.2.2.1)
theorem few_at (lp sp off : Int) (l : List Int) : P.skiarealaw17_few.f lp sp off l = some (decide (l.length ≤ 250)) := by
  unfold P.skiarealaw17_few.f
  congr 1
  rw [decide_eq_decide]; omega
theorem lright_at {lp sp off : Int} {l : List Int} (w0 : I64 lp) (w1 : I64 sp) (w2 : I64 off) {k : Nat} (hk : 450 ≤ k) : P.skiarealaw17_right.f k lp sp off l = some (decide (RL lp sp off l 16)) := by
  unfold P.skiarealaw17_right.f
  rw [few_at, Option.bind_some]
  by_cases h : l.length ≤ 250
  · rw [decide_eq_true h, if_pos rfl, rright_at h w0 w1 w2 16 hk, Option.bind_some]
  · rw [decide_eq_false h, if_neg (by decide), decide_eq_false (fun h' => h (by have := h'.1; unfold VL at this; omega))]
theorem RL.at_ {lp sp off : Int} {l : List Int} {seats : Int} (h : RL lp sp off l seats) {i : Nat} (hi : i < l.length) : 0 ≤ l.getD i 0 ∧ l.getD i 0 ≤ seats ∧ (pos lp sp off i < lp / 2 ∨ l.getD i 0 = 0) := by
  have := (allF_iff _ _ _).1 h.2 i (by omega) (by omega)
  simpa [okc] using this
theorem RL.mk_ {lp sp off : Int} {l : List Int} {seats : Int} (hv : VL lp sp off l.length) (h : ∀ i : Nat, i < l.length → 0 ≤ l.getD i 0 ∧ l.getD i 0 ≤ seats ∧ (pos lp sp off i < lp / 2 ∨ l.getD i 0 = 0)) : RL lp sp off l seats :=
  ⟨hv, (allF_iff _ _ _).2 fun j _ h2 => by simpa [okc] using h j (by omega)⟩
end Go.Proofs.Ytkehcgjdgfopdaa.Pure

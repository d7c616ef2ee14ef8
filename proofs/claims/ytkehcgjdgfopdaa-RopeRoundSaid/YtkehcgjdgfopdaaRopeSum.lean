/- People and Between of the rope: the program's and the reference's loops add the same numbers. -/
import Derived.Test.YtkehcgjdgfopdaaRope
import Derived.Test.YtkehcgjdgfopdaaPx20
import Derived.Test.YtkehcgjdgfopdaaPx21
import Derived.Test.YtkehcgjdgfopdaaPx5
import Derived.Test.YtkehcgjdgfopdaaPx6
namespace Go.Proofs.Ytkehcgjdgfopdaa.Pure
set_option linter.unusedVariables false
set_option linter.unusedSimpArgs false
open Go.RowKit Go.Proofs.YtkehcgjdgfopdaaW.PrintWords Go.Proofs.YtkehcgjdgfopdaaW.PrintLast Go.Proofs.YtkehcgjdgfopdaaW.PrintMore Go.Proofs.Ytkehcgjdgfopdaa
def sumF (f : Nat → Int) : Nat → Nat → Int
  | 0, _ => 0
  | n + 1, i => f i + sumF f n (i + 1)
theorem sumF_range {f : Nat → Int} {b : Int} : ∀ (n i : Nat), (∀ j, i ≤ j → j < i + n → 0 ≤ f j ∧ f j ≤ b) → 0 ≤ sumF f n i ∧ sumF f n i ≤ b * n
  | 0, _, _ => by simp [sumF]
  | n + 1, i, h => by
    have h1 := h i (by omega) (by omega)
    have h2 := sumF_range (f := f) (b := b) n (i + 1) (fun j h1 h2 => h j (by omega) (by omega))
    have e : b * ((n + 1 : Nat) : Int) = b * n + b := by rw [Int.natCast_add, Int.mul_add]; simp
    rw [sumF, e]
    omega
/-- The loads of a right line. -/
def LD (l : List Int) (i : Nat) : Int := l.getD i 0
/-- The people on a line. -/
def ppl (l : List Int) : Int := sumF (LD l) l.length 0
theorem people_l0 {l : List Int} (hl : l.length ≤ 200) (hb : ∀ i : Nat, i < l.length → 0 ≤ LD l i ∧ LD l i ≤ 16) : ∀ (n i k : Nat) (acc : Int), i + n = l.length → 0 ≤ acc → acc ≤ 16 * i → n < k →
    P.rope_People.l0 k acc l (l.length : Int) (i : Int) = some (acc + sumF (LD l) n i) := by
  intro n
  induction n with
  | zero =>
    intro i k acc hi ha ha' hk
    obtain ⟨k, rfl⟩ : ∃ j, k = j + 1 := ⟨k - 1, by omega⟩
    rw [P.rope_People.l0, if_neg (by omega), sumF, Int.add_zero]
  | succ n ih =>
    intro i k acc hi ha ha' hk
    obtain ⟨k, rfl⟩ : ∃ j, k = j + 1 := ⟨k - 1, by omega⟩
    have h := hb i (by omega)
    have key := ih (i + 1) k (acc + LD l i) (by omega) (by omega) (by omega) (by omega)
    rw [P.rope_People.l0, if_pos (by omega), if_pos (by omega), if_pos (by omega), rd_nat, wrap_at (x := (i : Int) + 1) (by omega) (by omega), show ((i : Int) + 1) = ((i + 1 : Nat) : Int) by omega]
    rw [show l.getD i 0 = LD l i from rfl, wrap_at (x := acc + LD l i) (by omega) (by omega), key, sumF, Int.add_assoc]
theorem people_at {lp sp off : Int} {l : List Int} (hl : l.length ≤ 200) (hb : ∀ i : Nat, i < l.length → 0 ≤ LD l i ∧ LD l i ≤ 16) {k : Nat} (hk : 200 < k) : P.rope_People.f k lp sp off l = some (ppl l) := by
  unfold P.rope_People.f ppl
  have := people_l0 hl hb l.length 0 k 0 (by omega) (by omega) (by omega) (by omega)
  rw [Int.natCast_zero, Int.zero_add] at this
  exact this
theorem rpeople_l0 {lp sp off : Int} {l : List Int} (hl : l.length ≤ 200) (hb : ∀ i : Nat, i < l.length → 0 ≤ LD l i ∧ LD l i ≤ 16) : ∀ (n i k : Nat) (acc : Int), i + n = l.length → 0 ≤ acc → acc ≤ 16 * i → n < k →
    P.skiarearef17_People.l0 k acc (i : Int) lp sp off l = some (acc + sumF (LD l) n i) := by
  intro n
  induction n with
  | zero =>
    intro i k acc hi ha ha' hk
    obtain ⟨k, rfl⟩ : ∃ j, k = j + 1 := ⟨k - 1, by omega⟩
    rw [P.skiarearef17_People.l0, if_neg (by omega), sumF, Int.add_zero]
  | succ n ih =>
    intro i k acc hi ha ha' hk
    obtain ⟨k, rfl⟩ : ∃ j, k = j + 1 := ⟨k - 1, by omega⟩
    have h := hb i (by omega)
    have key := ih (i + 1) k (acc + LD l i) (by omega) (by omega) (by omega) (by omega)
    rw [P.skiarearef17_People.l0, if_pos (by omega), if_pos (by omega), rd_nat, wrap_at (x := (i : Int) + 1) (by omega) (by omega), show ((i : Int) + 1) = ((i + 1 : Nat) : Int) by omega]
    rw [show l.getD i 0 = LD l i from rfl, wrap_at (x := acc + LD l i) (by omega) (by omega), key, sumF, Int.add_assoc]
theorem rpeople_at {lp sp off : Int} {l : List Int} (hl : l.length ≤ 200) (hb : ∀ i : Nat, i < l.length → 0 ≤ LD l i ∧ LD l i ≤ 16) {k : Nat} (hk : 200 < k) : P.skiarearef17_People.f k lp sp off l = some (ppl l) := by
  unfold P.skiarearef17_People.f ppl
  have := rpeople_l0 (lp := lp) (sp := sp) (off := off) hl hb l.length 0 k 0 (by omega) (by omega) (by omega) (by omega)
  rw [Int.natCast_zero, Int.zero_add] at this
  exact this
/-- The load of carrier i where it is between two positions. -/
def BT (lp sp off : Int) (l : List Int) (fr tt : Int) (i : Nat) : Int := if fr ≤ pos lp sp off i then (if pos lp sp off i < tt then LD l i else 0) else 0
theorem between_l0 {lp sp off : Int} {l : List Int} (h : VL lp sp off l.length) (hb : ∀ i : Nat, i < l.length → 0 ≤ LD l i ∧ LD l i ≤ 16) (fr tt : Int) : ∀ (n i k : Nat) (acc : Int), i + n = l.length → 0 ≤ acc → acc ≤ 16 * i → n < k →
    P.rope_Between.l0 k fr tt acc l (l.length : Int) (i : Int) lp sp off l = some (acc + sumF (BT lp sp off l fr tt) n i) := by
  have hl : l.length ≤ 200 := by unfold VL at h; omega
  intro n
  induction n with
  | zero =>
    intro i k acc hi ha ha' hk
    obtain ⟨k, rfl⟩ : ∃ j, k = j + 1 := ⟨k - 1, by omega⟩
    rw [P.rope_Between.l0, if_neg (by omega), sumF, Int.add_zero]
  | succ n ih =>
    intro i k acc hi ha ha' hk
    obtain ⟨k, rfl⟩ : ∃ j, k = j + 1 := ⟨k - 1, by omega⟩
    have h' := hb i (by omega)
    rw [P.rope_Between.l0, if_pos (by omega), if_pos (by omega), if_pos (by omega), at_in h (by omega) (by omega), Option.bind_some, rd_nat, wrap_at (x := (i : Int) + 1) (by omega) (by omega), show ((i : Int) + 1) = ((i + 1 : Nat) : Int) by omega]
    rw [show l.getD i 0 = LD l i from rfl, wrap_at (x := acc + LD l i) (by omega) (by omega), sumF, BT, ih (i + 1) k (acc + LD l i) (by omega) (by omega) (by omega) (by omega), ih (i + 1) k acc (by omega) (by omega) (by omega) (by omega)]
    by_cases h1 : fr ≤ pos lp sp off i
    · by_cases h2 : pos lp sp off i < tt
      · rw [if_pos h1, if_pos h2, if_pos h1, if_pos h2, Int.add_assoc]
      · rw [if_pos h1, if_neg h2, if_pos h1, if_neg h2, Int.zero_add]
    · rw [if_neg h1, if_neg h1, Int.zero_add]
theorem rbetween_l0 {lp sp off : Int} {l : List Int} (h : VL lp sp off l.length) (hb : ∀ i : Nat, i < l.length → 0 ≤ LD l i ∧ LD l i ≤ 16) (fr tt : Int) : ∀ (n i k : Nat) (acc : Int), i + n = l.length → 0 ≤ acc → acc ≤ 16 * i → n < k →
    P.skiarearef17_Between.l0 k fr tt acc (i : Int) lp sp off l = some (acc + sumF (BT lp sp off l fr tt) n i) := by
  have hl : l.length ≤ 200 := by unfold VL at h; omega
  intro n
  induction n with
  | zero =>
    intro i k acc hi ha ha' hk
    obtain ⟨k, rfl⟩ : ∃ j, k = j + 1 := ⟨k - 1, by omega⟩
    rw [P.skiarearef17_Between.l0, if_neg (by omega), sumF, Int.add_zero]
  | succ n ih =>
    intro i k acc hi ha ha' hk
    obtain ⟨k, rfl⟩ : ∃ j, k = j + 1 := ⟨k - 1, by omega⟩
    have h' := hb i (by omega)
    rw [P.skiarearef17_Between.l0, if_pos (by omega), if_pos (by omega), rat_in h (by omega) (by omega), Option.bind_some, rd_nat, wrap_at (x := (i : Int) + 1) (by omega) (by omega), show ((i : Int) + 1) = ((i + 1 : Nat) : Int) by omega]
    rw [show l.getD i 0 = LD l i from rfl, wrap_at (x := acc + LD l i) (by omega) (by omega), sumF, BT, ih (i + 1) k (acc + LD l i) (by omega) (by omega) (by omega) (by omega), ih (i + 1) k acc (by omega) (by omega) (by omega) (by omega)]
    by_cases h1 : fr ≤ pos lp sp off i
    · by_cases h2 : pos lp sp off i < tt
      · rw [if_pos (show pos lp sp off i ≥ fr from h1), if_pos h2, if_pos h1, if_pos h2, Int.add_assoc]
      · rw [if_pos (show pos lp sp off i ≥ fr from h1), if_neg h2, if_pos h1, if_neg h2, Int.zero_add]
    · rw [if_neg (show ¬ pos lp sp off i ≥ fr from h1), if_neg h1, Int.zero_add]
theorem between_at {lp sp off : Int} {l : List Int} (h : VL lp sp off l.length) (hb : ∀ i : Nat, i < l.length → 0 ≤ LD l i ∧ LD l i ≤ 16) (fr tt : Int) {k : Nat} (hk : 200 < k) : P.rope_Between.f k lp sp off l fr tt = some (sumF (BT lp sp off l fr tt) l.length 0) := by
  have hl : l.length ≤ 200 := by unfold VL at h; omega
  unfold P.rope_Between.f
  have := between_l0 h hb fr tt l.length 0 k 0 (by omega) (by omega) (by omega) (by omega)
  rw [Int.natCast_zero, Int.zero_add] at this
  exact this
theorem rbetween_at {lp sp off : Int} {l : List Int} (h : VL lp sp off l.length) (hb : ∀ i : Nat, i < l.length → 0 ≤ LD l i ∧ LD l i ≤ 16) (fr tt : Int) {k : Nat} (hk : 200 < k) : P.skiarearef17_Between.f k lp sp off l fr tt = some (sumF (BT lp sp off l fr tt) l.length 0) := by
  have hl : l.length ≤ 200 := by unfold VL at h; omega
  unfold P.skiarearef17_Between.f
  have := rbetween_l0 h hb fr tt l.length 0 k 0 (by omega) (by omega) (by omega) (by omega)
  rw [Int.natCast_zero, Int.zero_add] at this
  exact this
end Go.Proofs.Ytkehcgjdgfopdaa.Pure

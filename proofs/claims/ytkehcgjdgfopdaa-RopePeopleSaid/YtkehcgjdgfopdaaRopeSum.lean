/- People of the program's rope: a sum. -/
import Derived.Test.YtkehcgjdgfopdaaRope
import Derived.Test.YtkehcgjdgfopdaaPx5
namespace Go.Proofs.Ytkehcgjdgfopdaa.Pure
set_option linter.unusedVariables false
set_option linter.unusedSimpArgs false
open Go.RowKit Go.Proofs.YtkehcgjdgfopdaaW.PrintWords Go.Proofs.YtkehcgjdgfopdaaW.PrintLast Go.Proofs.YtkehcgjdgfopdaaW.PrintMore Go.Proofs.Ytkehcgjdgfopdaa
def sumF (f : Nat → Int) : Nat → Nat → Int
  | 0, _ => 0
  | n + 1, i => f i + sumF f n (i + 1)
theorem sumF_range {f : Nat → Int} {b : Int} : ∀ (n i : Nat), (∀ j, i ≤ j → j < i + n → 0 ≤ f j ∧ f j ≤ b) → 0 ≤ sumF f n i ∧ sumF f n i ≤ b * n
  | 0, _, _ => by simp [sumF]
  | n + 1, i, h => by
    have h1 := h i (by omega) (by omega)
    have h2 := sumF_range (f := f) (b := b) n (i + 1) (fun j h1 h2 => h j (by omega) (by omega))
    have e : b * ((n + 1 : Nat) : Int) = b * n + b := by rw [Int.natCast_add, Int.mul_add]; simp
    rw [sumF, e]
    omega
/-- The loads of a right line. -/
def LD (l : List Int) (i : Nat) : Int := l.getD i 0
/-- The people on a line. -/
def ppl (l : List Int) : Int := sumF (LD l) l.length 0
theorem people_l0 {l : List Int} (hl : l.length ≤ 200) (hb : ∀ i : Nat, i < l.length → 0 ≤ LD l i ∧ LD l i ≤ 16) : ∀ (n i k : Nat) (acc : Int), i + n = l.length → 0 ≤ acc → acc ≤ 16 * i → n < k →
    P.rope_People.l0 k acc l (l.length : Int) (i : Int) = some (acc + sumF (LD l) n i) := by
  intro n
  induction n with
  | zero =>
    intro i k acc hi ha ha' hk
    obtain ⟨k, rfl⟩ : ∃ j, k = j + 1 := ⟨k - 1, by omega⟩
    rw [P.rope_People.l0, if_neg (by omega), sumF, Int.add_zero]
  | succ n ih =>
    intro i k acc hi ha ha' hk
    obtain ⟨k, rfl⟩ : ∃ j, k = j + 1 := ⟨k - 1, by omega⟩
    have h := hb i (by omega)
    have key := ih (i + 1) k (acc + LD l i) (by omega) (by omega) (by omega) (by omega)
    rw [P.rope_People.l0, if_pos (by omega), if_pos (by omega), if_pos (by omega), rd_nat, wrap_at (x := (i : Int) + 1) (by omega) (by omega), show ((i : Int) + 1) = ((i + 1 : Nat) : Int) by omega]
    rw [show l.getD i 0 = LD l i from rfl, wrap_at (x := acc + LD l i) (by omega) (by omega), key, sumF, Int.add_assoc]
theorem people_at {lp sp off : Int} {l : List Int} (hl : l.length ≤ 200) (hb : ∀ i : Nat, i < l.length → 0 ≤ LD l i ∧ LD l i ≤ 16) {k : Nat} (hk : 200 < k) : P.rope_People.f k lp sp off l = some (ppl l) := by
  unfold P.rope_People.f ppl
  have := people_l0 hl hb l.length 0 k 0 (by omega) (by omega) (by omega) (by omega)
  rw [Int.natCast_zero, Int.zero_add] at this
  exact this
end Go.Proofs.Ytkehcgjdgfopdaa.Pure

/- Two equal lines are the same. -/
import Derived.Test.YtkehcgjdgfopdaaRope
import Derived.Test.YtkehcgjdgfopdaaPx14
namespace Go.Proofs.Ytkehcgjdgfopdaa.Pure
set_option linter.unusedVariables false
set_option linter.unusedSimpArgs false
open Go.RowKit Go.Proofs.YtkehcgjdgfopdaaW.PrintWords Go.Proofs.YtkehcgjdgfopdaaW.PrintLast Go.Proofs.YtkehcgjdgfopdaaW.PrintMore Go.Proofs.Ytkehcgjdgfopdaa
theorem same_l0 {a b c d e f : Int} {l : List Int} (hl : l.length ≤ 9223372036854775806) : ∀ (n i k : Nat), i + n = l.length → n < k → P.skiarearef17_Same.l0 k (i : Int) a b c l d e f l = some true := by
  intro n
  induction n with
  | zero =>
    intro i k hi hk
    obtain ⟨k, rfl⟩ : ∃ j, k = j + 1 := ⟨k - 1, by omega⟩
    rw [P.skiarearef17_Same.l0, if_neg (by omega)]
  | succ n ih =>
    intro i k hi hk
    obtain ⟨k, rfl⟩ : ∃ j, k = j + 1 := ⟨k - 1, by omega⟩
    rw [P.skiarearef17_Same.l0, if_pos (by omega), if_pos (by omega), if_pos (by omega), if_pos rfl, wrap_at (x := (i : Int) + 1) (by omega) (by omega), show ((i : Int) + 1) = ((i + 1 : Nat) : Int) by omega]
    exact ih (i + 1) k (by omega) (by omega)
theorem same_at {a b c : Int} {l : List Int} {N : Nat} (hN : N ≤ 9223372036854775806) (hl : l.length ≤ N) {k : Nat} (hk : N + 1 < k) : P.skiarearef17_Same.f k a b c l a b c l = some true := by
  obtain ⟨k, rfl⟩ : ∃ j, k = j + 1 := ⟨k - 1, by omega⟩
  unfold P.skiarearef17_Same.f
  rw [if_pos rfl, if_pos rfl, if_pos rfl, P.skiarearef17_Same.j0, if_neg (by simp)]
  have := same_l0 (a := a) (b := b) (c := c) (d := a) (e := b) (f := c) (l := l) (by omega) l.length 0 k (by omega) (by omega)
  rw [Int.natCast_zero] at this
  exact this
end Go.Proofs.Ytkehcgjdgfopdaa.Pure

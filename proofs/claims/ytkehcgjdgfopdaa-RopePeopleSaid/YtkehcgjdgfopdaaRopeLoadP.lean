/- Load and Take of the program's rope. -/
import Derived.Test.YtkehcgjdgfopdaaRope
import Derived.Test.YtkehcgjdgfopdaaPx10
import Derived.Test.YtkehcgjdgfopdaaPx11
import Derived.Test.YtkehcgjdgfopdaaPx7
import Derived.Test.YtkehcgjdgfopdaaPx9
namespace Go.Proofs.Ytkehcgjdgfopdaa.Pure
set_option linter.unusedVariables false
set_option linter.unusedSimpArgs false
open Go.RowKit Go.Proofs.YtkehcgjdgfopdaaW.PrintWords Go.Proofs.YtkehcgjdgfopdaaW.PrintLast Go.Proofs.YtkehcgjdgfopdaaW.PrintMore Go.Proofs.Ytkehcgjdgfopdaa
theorem with_at {lp sp off : Int} {l : List Int} (hl : l.length ≤ 200) {i : Int} (h0 : 0 ≤ i) (h1 : i < (l.length : Int)) (v : Int) : P.rope_with.f lp sp off l i v = some (lp, sp, off, l.set i.toNat v) := by
  unfold P.rope_with.f P.slices_Clone_int_int.f
  rw [if_pos (by omega), Option.bind_some, if_pos h0, if_pos h1]
/-- What Load answers. -/
def ldR (lp sp off : Int) (l : List Int) (i n seats : Int) : Int × Int × Int × List Int × Int :=
  if 0 ≤ i ∧ i < (l.length : Int) then
    (if pos lp sp off i ≥ sp ∨ pos lp sp off i ≥ lp / 2 ∨ rd l i ≠ 0 then (0, 0, 0, [], 10) else if 0 ≤ n ∧ n ≤ seats ∧ seats ≤ 16 then (lp, sp, off, l.set i.toNat n, 0) else (0, 0, 0, [], 2))
  else (0, 0, 0, [], 8)
/-- What Take answers. -/
def tkR (lp sp off : Int) (l : List Int) (i n : Int) : Int × Int × Int × List Int × Int :=
  if 0 ≤ i ∧ i < (l.length : Int) then (if 0 ≤ n ∧ n ≤ rd l i then (lp, sp, off, l.set i.toNat (rd l i - n), 0) else (0, 0, 0, [], 2)) else (0, 0, 0, [], 8)
theorem load_j0 {lp sp off : Int} {l : List Int} (hl : l.length ≤ 200) {i : Int} (h0 : 0 ≤ i) (h1 : i < (l.length : Int)) (n seats : Int) (c : Bool) (k : Nat) : P.rope_Load.j0 (k + 1) i n seats c lp sp off l = some (if c = true then (0, 0, 0, [], 10) else if 0 ≤ n ∧ n ≤ seats ∧ seats ≤ 16 then (lp, sp, off, l.set i.toNat n, 0) else (0, 0, 0, [], 2)) := by
  rw [P.rope_Load.j0]
  cases c
  · rw [if_neg (show ¬ (false = true) by decide), if_neg (show ¬ (false = true) by decide)]
    by_cases h : seats > 16
    · rw [if_pos h, if_neg (by omega)]
    · rw [if_neg h, in_at, Option.bind_some]
      by_cases h' : 0 ≤ n ∧ n ≤ seats
      · rw [decide_eq_true h', if_pos rfl, with_at hl h0 h1, Option.bind_some, if_pos (by omega)]
      · rw [decide_eq_false h', if_neg (by decide), if_neg (by omega)]
  · rw [if_pos rfl, if_pos rfl]
theorem load_at {lp sp off : Int} {l : List Int} (h : VL lp sp off l.length) (i n seats : Int) (k : Nat) : P.rope_Load.f (k + 1) lp sp off l i n seats = some (ldR lp sp off l i n seats) := by
  have hl : l.length ≤ 200 := by unfold VL at h; omega
  have hb := h.bounds
  have hr := pos_range h i
  unfold P.rope_Load.f ldR
  by_cases hi : 0 ≤ i ∧ i < (l.length : Int)
  · rw [at_in h hi.1 hi.2, Option.bind_some, half_at (by omega) (by omega), if_neg (by omega), if_pos hi, if_pos hi.1, if_pos hi.2]
    simp only [load_j0 hl hi.1 hi.2]
    by_cases h1 : pos lp sp off i ≥ sp
    · rw [if_pos h1, if_pos trivial, if_pos (Or.inl h1)]
    · rw [if_neg h1]
      by_cases h2 : pos lp sp off i ≥ lp / 2
      · rw [if_pos h2, if_pos trivial, if_pos (Or.inr (Or.inl h2))]
      · rw [if_neg h2]
        by_cases h3 : rd l i = 0
        · rw [if_neg (by simp [h3]), if_neg (show ¬ (pos lp sp off i ≥ sp ∨ pos lp sp off i ≥ lp / 2 ∨ rd l i ≠ 0) from fun h' => h'.elim h1 (fun h' => h'.elim h2 (fun h' => h' h3)))]
        · rw [if_pos (by simp [h3]), if_pos (Or.inr (Or.inr h3))]
  · rw [at_out (by omega) (by omega), Option.bind_some, if_pos (by decide), if_neg hi]
theorem take_at {lp sp off : Int} {l : List Int} (h : VL lp sp off l.length) (i n : Int) (hn : 0 ≤ rd l i ∧ rd l i ≤ 16) : P.rope_Take.f lp sp off l i n = some (tkR lp sp off l i n) := by
  have hl : l.length ≤ 200 := by unfold VL at h; omega
  have hr := pos_range h i
  unfold P.rope_Take.f tkR
  by_cases hi : 0 ≤ i ∧ i < (l.length : Int)
  · rw [at_in h hi.1 hi.2, Option.bind_some, if_neg (by omega), if_pos hi, if_pos hi.1, if_pos hi.2, in_at, Option.bind_some]
    by_cases h1 : 0 ≤ n ∧ n ≤ rd l i
    · rw [decide_eq_true h1, if_pos rfl, wrap_at (by omega) (by omega), with_at hl hi.1 hi.2, Option.bind_some, if_pos h1]
    · rw [decide_eq_false h1, if_neg (by decide), if_neg h1]
  · rw [at_out (by omega) (by omega), Option.bind_some, if_pos (by decide), if_neg hi]
theorem ldR_length (lp sp off : Int) (l : List Int) (i n seats : Int) : (ldR lp sp off l i n seats).2.2.2.1.length ≤ l.length := by
  unfold ldR
  split
  · split
    · simp
    · split <;> simp
  · simp
theorem tkR_length (lp sp off : Int) (l : List Int) (i n : Int) : (tkR lp sp off l i n).2.2.2.1.length ≤ l.length := by
  unfold tkR
  split
  · split <;> simp
  · simp
theorem RL.rd_ {lp sp off : Int} {l : List Int} {seats : Int} (hs : 0 ≤ seats) (h : RL lp sp off l seats) (i : Int) : 0 ≤ rd l i ∧ rd l i ≤ seats := by
  unfold rd
  by_cases hi : i.toNat < l.length
  · have := h.at_ hi
    omega
  · rw [List.getD_eq_getElem?_getD, List.getElem?_eq_none (by omega)]
    exact ⟨by simp, by simpa using hs⟩
end Go.Proofs.Ytkehcgjdgfopdaa.Pure

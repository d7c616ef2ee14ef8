/- Move of the program's rope in plain Lean. -/
import Derived.Test.YtkehcgjdgfopdaaRopeSum
import Derived.Test.YtkehcgjdgfopdaaPx7
import Derived.Test.YtkehcgjdgfopdaaPx8
namespace Go.Proofs.Ytkehcgjdgfopdaa.Pure
set_option linter.unusedVariables false
set_option linter.unusedSimpArgs false
open Go.RowKit Go.Proofs.YtkehcgjdgfopdaaW.PrintWords Go.Proofs.YtkehcgjdgfopdaaW.PrintLast Go.Proofs.YtkehcgjdgfopdaaW.PrintMore Go.Proofs.Ytkehcgjdgfopdaa
/-- Carrier i reaches the upper station. -/
def up (lp sp off d : Int) (i : Nat) : Prop := pos lp sp off i < lp / 2 ∧ pos lp sp off i + d ≥ lp / 2
/-- Carrier i passes the lower station. -/
def low (lp sp off d : Int) (i : Nat) : Prop := pos lp sp off i + d ≥ lp
instance (lp sp off d : Int) (i : Nat) : Decidable (up lp sp off d i) := by unfold up; infer_instance
instance (lp sp off d : Int) (i : Nat) : Decidable (low lp sp off d i) := by unfold low; infer_instance
def mvL (lp sp off d : Int) (l : List Int) : Nat → Nat → Int → Int → List Int → List Int × Int × Int
  | 0, _, p, s, acc => (acc, p, s)
  | n + 1, i, p, s, acc => mvL lp sp off d l n (i + 1) (if low lp sp off d i then (i : Int) else p) (if up lp sp off d i then s + LD l i else s) (acc ++ [if up lp sp off d i then 0 else LD l i])
theorem drop_at {l : List Int} {i : Nat} (h : i < l.length) : l.drop i = LD l i :: l.drop (i + 1) := by
  rw [List.drop_eq_getElem_cons h]
  unfold LD
  rw [List.getD_eq_getElem?_getD, List.getElem?_eq_getElem h]
  rfl
theorem move_l0 {lp sp off d : Int} {l : List Int} (h : VL lp sp off l.length) (hb : ∀ i : Nat, i < l.length → 0 ≤ LD l i ∧ LD l i ≤ 16) (hd : 0 ≤ d) (hd' : d ≤ sp) : ∀ (n i k : Nat) (p s : Int) (acc : List Int), i + n = l.length → acc.length = i → 0 ≤ s → s ≤ 16 * i → 2 * n < k →
    P.rope_Move.l0 k d p s (acc ++ l.drop i) l (l.length : Int) (i : Int) lp sp off l = some (lp, sp, (off + d) % lp, (mvL lp sp off d l n i p s acc).1, (mvL lp sp off d l n i p s acc).2.1, (mvL lp sp off d l n i p s acc).2.2, 0) := by
  have hl : l.length ≤ 200 := by unfold VL at h; omega
  have hbd := h.bounds
  have hoff : 0 ≤ off ∧ off < lp := by unfold VL at h; omega
  have hsp : sp ≤ 1000000 := by unfold VL at h; omega
  intro n
  induction n with
  | zero =>
    intro i k p s acc hi hacc hs hs' hk
    obtain ⟨k, rfl⟩ : ∃ j, k = j + 1 := ⟨k - 1, by omega⟩
    rw [P.rope_Move.l0, if_neg (by omega), if_neg (by omega), wrap_at (x := off + d) (by omega) (by omega), Int.tmod_eq_emod_of_nonneg (by omega), List.drop_eq_nil_of_le (by omega), List.append_nil]
    rfl
  | succ n ih =>
    intro i k p s acc hi hacc hs hs' hk
    obtain ⟨k, rfl⟩ : ∃ j, k = j + 2 := ⟨k - 2, by omega⟩
    have hld := hb i (by omega)
    have hr := pos_range h (i : Int)
    have e1 : ((i : Int) + 1) = ((i + 1 : Nat) : Int) := by omega
    have hdrop := drop_at (l := l) (i := i) (by omega)
    have hset : (acc ++ l.drop i).set ((i : Int)).toNat 0 = (acc ++ [0]) ++ l.drop (i + 1) := by
      rw [Int.toNat_natCast, hdrop, List.set_append_right _ _ (by omega), hacc, Nat.sub_self, List.set_cons_zero, List.append_assoc]
      rfl
    have hkeep : acc ++ l.drop i = (acc ++ [LD l i]) ++ l.drop (i + 1) := by rw [hdrop, List.append_assoc]; rfl
    have hlen : ((acc ++ l.drop i).length : Int) = l.length := by rw [List.length_append, List.length_drop]; omega
    rw [P.rope_Move.l0, if_pos (by omega), if_pos (by omega), if_pos (by omega), at_in h (by omega) (by omega), Option.bind_some, half_at (by omega) (by omega), rd_nat, show l.getD i 0 = LD l i from rfl, wrap_at (x := pos lp sp off i + d) (by omega) (by omega)]
    have step : ∀ c : Bool, c = decide (up lp sp off d i) → P.rope_Move.j1 (k + 1) d p s (acc ++ l.drop i) (i : Int) (LD l i) (pos lp sp off i) l (l.length : Int) (i : Int) c lp sp off l = some (lp, sp, (off + d) % lp, (mvL lp sp off d l (n + 1) i p s acc).1, (mvL lp sp off d l (n + 1) i p s acc).2.1, (mvL lp sp off d l (n + 1) i p s acc).2.2, 0) := by
      intro c hc
      rw [P.rope_Move.j1, wrap_at (x := pos lp sp off i + d) (by omega) (by omega), wrap_at (x := (i : Int) + 1) (by omega) (by omega), wrap_at (x := s + LD l i) (by omega) (by omega), e1, hset, hkeep]
      rw [mvL]
      by_cases hu : up lp sp off d i
      · rw [hc, decide_eq_true hu, if_pos rfl, if_pos hu, if_pos hu, if_pos (by omega), if_pos (by rw [← hkeep]; omega), Option.bind_some]
        by_cases hw : low lp sp off d i
        · rw [if_pos (show pos lp sp off i + d ≥ lp from hw), if_pos hw]
          exact ih (i + 1) k _ _ _ (by omega) (by simp [hacc]) (by omega) (by omega) (by omega)
        · rw [if_neg (show ¬ pos lp sp off i + d ≥ lp from hw), if_neg hw]
          exact ih (i + 1) k _ _ _ (by omega) (by simp [hacc]) (by omega) (by omega) (by omega)
      · rw [hc, decide_eq_false hu, if_neg (by decide), if_neg hu, if_neg hu]
        by_cases hw : low lp sp off d i
        · rw [if_pos (show pos lp sp off i + d ≥ lp from hw), if_pos hw]
          exact ih (i + 1) k _ _ _ (by omega) (by simp [hacc]) (by omega) (by omega) (by omega)
        · rw [if_neg (show ¬ pos lp sp off i + d ≥ lp from hw), if_neg hw]
          exact ih (i + 1) k _ _ _ (by omega) (by simp [hacc]) (by omega) (by omega) (by omega)
    by_cases h1 : pos lp sp off i < lp / 2
    · rw [if_pos h1]
      exact step _ (by rw [decide_eq_decide]; unfold up; omega)
    · rw [if_neg h1]
      exact step _ (decide_eq_false (fun hu => h1 hu.1)).symm
theorem clone_at {l : List Int} (h : l.length ≤ 1000) : P.slices_Clone_int_int.f l = some l := by
  unfold P.slices_Clone_int_int.f
  rw [if_pos (by omega)]
/-- What Move answers. -/
def mv (lp sp off : Int) (l : List Int) (d : Int) : Int × Int × Int × List Int × Int × Int × Int :=
  if 0 ≤ d ∧ d ≤ sp then (lp, sp, (off + d) % lp, (mvL lp sp off d l l.length 0 (-1) 0 []).1, (mvL lp sp off d l l.length 0 (-1) 0 []).2.1, (mvL lp sp off d l l.length 0 (-1) 0 []).2.2, 0) else (0, 0, 0, [], 0, 0, 2)
theorem move_at {lp sp off d : Int} {l : List Int} (h : VL lp sp off l.length) (hb : ∀ i : Nat, i < l.length → 0 ≤ LD l i ∧ LD l i ≤ 16) {k : Nat} (hk : 500 ≤ k) : P.rope_Move.f k lp sp off l d = some (mv lp sp off l d) := by
  have hl : l.length ≤ 200 := by unfold VL at h; omega
  unfold P.rope_Move.f mv
  rw [in_at, Option.bind_some]
  by_cases hd : 0 ≤ d ∧ d ≤ sp
  · rw [decide_eq_true hd, if_pos rfl, if_pos hd, clone_at (by omega), Option.bind_some]
    have := move_l0 h hb hd.1 hd.2 l.length 0 k (-1) 0 [] (by omega) rfl (by omega) (by omega) (by omega)
    rw [Int.natCast_zero, List.nil_append, List.drop_zero] at this
    exact this
  · rw [decide_eq_false hd, if_neg (by decide), if_neg hd]
theorem mvL_length (lp sp off d : Int) (l : List Int) : ∀ (n i : Nat) (p s : Int) (acc : List Int), (mvL lp sp off d l n i p s acc).1.length = acc.length + n
  | 0, _, _, _, _ => rfl
  | n + 1, i, p, s, acc => by rw [mvL, mvL_length lp sp off d l n]; simp; omega
theorem mv_length (lp sp off d : Int) (l : List Int) : (mv lp sp off l d).2.2.2.1.length ≤ l.length := by
  unfold mv
  split
  · simp only [mvL_length]; simp
  · simp
end Go.Proofs.Ytkehcgjdgfopdaa.Pure

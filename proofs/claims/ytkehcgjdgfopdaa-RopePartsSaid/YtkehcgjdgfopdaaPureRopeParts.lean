/- The plain law of RopeParts: the printed function answers true for every line and numbers. -/
import Derived.Test.YtkehcgjdgfopdaaRopeChar
import Derived.Test.YtkehcgjdgfopdaaRopeSame
import Derived.Test.YtkehcgjdgfopdaaPx31
namespace Go.Proofs.Ytkehcgjdgfopdaa.Pure
set_option linter.unusedVariables false
set_option linter.unusedSimpArgs false
open Go.RowKit Go.Proofs.YtkehcgjdgfopdaaW.PrintWords Go.Proofs.YtkehcgjdgfopdaaW.PrintLast Go.Proofs.YtkehcgjdgfopdaaW.PrintMore Go.Proofs.Ytkehcgjdgfopdaa
theorem two_moves {lp sp off a b : Int} {l : List Int} (h : RL lp sp off l 16) (ha : 0 ≤ a) (hb : 0 ≤ b) (hab : a + b ≤ sp) {j : Nat} (hj : j < l.length) :
    (up lp sp ((off + a) % lp) b j → LD (ld1 lp sp off a l) j = 0 ∨ (up lp sp off (a + b) j ∧ ¬ up lp sp off a j)) ∧ (up lp sp off (a + b) j → up lp sp off a j ∨ up lp sp ((off + a) % lp) b j) ∧ (up lp sp off a j → up lp sp off (a + b) j) ∧ (low lp sp off (a + b) j ↔ low lp sp off a j ∨ low lp sp ((off + a) % lp) b j) := by
  have hp := pos_next h.1 (d := a) ⟨ha, by omega⟩ (j : Int)
  have hr := pos_range h.1 (j : Int)
  have hbd := h.1.bounds
  have hl := h.ld hj
  have e := ld1_at lp sp off a l hj
  by_cases u : up lp sp off a j
  · rw [if_pos u] at e
    unfold up at u ⊢
    unfold low
    rw [hp]
    split <;> (refine ⟨fun h1 => ?_, fun h1 => ?_, fun h1 => ?_, ?_⟩ <;> omega)
  · rw [if_neg u] at e
    unfold up at u ⊢
    unfold low
    rw [hp]
    split <;> (refine ⟨fun h1 => ?_, fun h1 => ?_, fun h1 => ?_, ?_⟩ <;> omega)
theorem parts {lp sp off a b : Int} {l : List Int} (h : RL lp sp off l 16) (ha : 0 ≤ a) (hb : 0 ≤ b) (hab : a + b ≤ sp) :
    ld1 lp sp ((off + a) % lp) b (ld1 lp sp off a l) = ld1 lp sp off (a + b) l ∧ lf1 lp sp off a l + lf1 lp sp ((off + a) % lp) b (ld1 lp sp off a l) = lf1 lp sp off (a + b) l ∧
    lastF (low lp sp off (a + b)) l.length 0 (-1) = max (lastF (low lp sp off a) l.length 0 (-1)) (lastF (low lp sp ((off + a) % lp) b) l.length 0 (-1)) := by
  refine ⟨?_, ?_, ?_⟩
  · show tabF _ (ld1 lp sp off a l).length 0 = tabF _ l.length 0
    rw [ld1_length]
    refine tabF_congr _ _ (fun j _ hj => ?_)
    obtain ⟨h1, h2, h3, _⟩ := two_moves h ha hb hab (j := j) (by omega)
    have e := ld1_at lp sp off a l (j := j) (by omega)
    by_cases u1 : up lp sp ((off + a) % lp) b j
    · rw [if_pos u1]
      by_cases u3 : up lp sp off (a + b) j
      · rw [if_pos u3]
      · rw [if_neg u3]
        have h4 := (h1 u1).resolve_right (fun h => u3 h.1)
        rw [if_neg (fun h => u3 (h3 h))] at e
        omega
    · rw [if_neg u1, e]
      by_cases u3 : up lp sp off (a + b) j
      · rw [if_pos u3, if_pos ((h2 u3).resolve_right u1)]
      · rw [if_neg u3, if_neg (fun h => u3 (h3 h))]
  · show sumF _ l.length 0 + sumF _ (ld1 lp sp off a l).length 0 = sumF _ l.length 0
    rw [ld1_length, ← sumF_add]
    refine sumF_congr _ _ (fun j _ hj => ?_)
    obtain ⟨h1, h2, h3, _⟩ := two_moves h ha hb hab (j := j) (by omega)
    have e := ld1_at lp sp off a l (j := j) (by omega)
    by_cases u2 : up lp sp off a j
    · rw [if_pos u2] at e
      rw [if_pos u2, if_pos (h3 u2), e]
      split <;> omega
    · rw [if_neg u2] at e
      rw [if_neg u2, e]
      by_cases u1 : up lp sp ((off + a) % lp) b j
      · rw [if_pos u1]
        rcases h1 u1 with h4 | h4
        · split <;> omega
        · rw [if_pos h4.1]; omega
      · rw [if_neg u1, if_neg (fun h => (h2 h).elim u2 u1)]; rfl
  · rw [← lastF_or _ _ _ _ (by omega) (by omega), show max (-1 : Int) (-1) = -1 from rfl]
    exact lastF_congr _ _ _ (fun j _ hj => (two_moves h ha hb hab (j := j) (by omega)).2.2.2)
theorem RopeParts (a0_0 : Int) (a0_1 : Int) (a0_2 : Int) (l0_3 : List Int) (a1 : Int) (a2 : Int) (w0_0 : I64 a0_0) (w0_1 : I64 a0_1) (w0_2 : I64 a0_2) (w0_3 : ∀ x ∈ l0_3, I64 x) (y0_3 : l0_3.length ≤ 9223372036854775807) (w1 : I64 a1) (w2 : I64 a2) : ∃ k, P.skiarealaw17_RopeParts.f k a0_0 a0_1 a0_2 l0_3 a1 a2 = some true := by
  obtain ⟨k, hk⟩ : ∃ k : Nat, k = 2000 := ⟨_, rfl⟩
  refine ⟨k + 1, ?_⟩
  unfold P.skiarealaw17_RopeParts.f
  rw [alive_at (by omega), Option.bind_some, if_pos rfl, lright_at w0_0 w0_1 w0_2 (by omega), Option.bind_some]
  have out : P.skiarealaw17_RopeParts.j0 (k + 1) a1 a2 true a0_0 a0_1 a0_2 l0_3 = some true := by rw [P.skiarealaw17_RopeParts.j0, if_pos rfl]
  by_cases h : RL a0_0 a0_1 a0_2 l0_3 16
  · have hl : l0_3.length ≤ 200 ∧ a0_1 ≤ 1000000 ∧ 5000 ≤ a0_1 := by have := h.1; unfold VL at this; omega
    rw [decide_eq_true h, if_pos rfl, out]
    by_cases h1 : a1 < 0
    · rw [if_pos h1]
    rw [if_neg h1]
    by_cases h2 : a2 < 0
    · rw [if_pos h2]
    rw [if_neg h2]
    by_cases h3 : a1 > a0_1
    · rw [if_pos h3]
    rw [if_neg h3, wrap_at (x := a0_1 - a1) (by omega) (by omega)]
    by_cases h4 : a2 > a0_1 - a1
    · rw [decide_eq_true h4, out]
    rw [decide_eq_false h4, P.skiarealaw17_RopeParts.j0, if_neg (by decide), move_at h.1 h.bb (by omega), mv_eq ⟨by omega, by omega⟩, Option.bind_some]
    have hm := h.move (by omega) (d := a1) ⟨by omega, by omega⟩
    have e := move_at hm.1 hm.bb (d := a2) (k := k) (by omega)
    rw [mv_eq ⟨by omega, by omega⟩] at e
    dsimp only
    rw [e, Option.bind_some, wrap_at (x := a1 + a2) (by omega) (by omega), move_at h.1 h.bb (by omega), mv_eq ⟨by omega, by omega⟩, Option.bind_some]
    dsimp only
    obtain ⟨p1, p2, p3⟩ := parts h (a := a1) (b := a2) (by omega) (by omega) (by omega)
    have hlen := ld1_length a0_0 a0_1 a0_2 (a1 + a2) l0_3
    have f1 := lf1_range (d := a1) h (seats := 0)
    have f2 := lf1_range (d := a2) hm (seats := 0)
    rw [if_pos rfl, if_pos rfl, if_pos rfl, p1, ld1_length, wrap_at (by omega) (by omega), p2, show ((a0_2 + a1) % a0_0 + a2) % a0_0 = (a0_2 + (a1 + a2)) % a0_0 by rw [Int.emod_add_emod, Int.add_assoc], same_at (N := 200) (by omega) (by omega) (by omega), Option.bind_some, if_pos rfl, if_pos rfl, p3]
    congr 1
    rw [beq_iff_eq]
    unfold mx
    omega
  · rw [decide_eq_false h, if_neg (by decide), out]
end Go.Proofs.Ytkehcgjdgfopdaa.Pure

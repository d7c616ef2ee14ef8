/- Move of the rope, carrier by carrier: loads, who passes the lower station, who leaves; a right line stays right. -/
import Derived.Test.YtkehcgjdgfopdaaRopeMove
namespace Go.Proofs.Ytkehcgjdgfopdaa.Pure
set_option linter.unusedVariables false
set_option linter.unusedSimpArgs false
open Go.RowKit Go.Proofs.YtkehcgjdgfopdaaW.PrintWords Go.Proofs.YtkehcgjdgfopdaaW.PrintLast Go.Proofs.YtkehcgjdgfopdaaW.PrintMore Go.Proofs.Ytkehcgjdgfopdaa
def tabF (g : Nat → Int) : Nat → Nat → List Int
  | 0, _ => []
  | n + 1, i => g i :: tabF g n (i + 1)
def lastF (c : Nat → Prop) [DecidablePred c] : Nat → Nat → Int → Int
  | 0, _, p => p
  | n + 1, i, p => lastF c n (i + 1) (if c i then (i : Int) else p)
theorem tabF_length (g : Nat → Int) : ∀ n i, (tabF g n i).length = n
  | 0, _ => rfl
  | n + 1, i => by rw [tabF, List.length_cons, tabF_length g n]
theorem tabF_at (g : Nat → Int) : ∀ (n i j : Nat), j < n → LD (tabF g n i) j = g (i + j)
  | 0, _, j, h => by omega
  | n + 1, i, 0, h => by simp [tabF, LD]
  | n + 1, i, j + 1, h => by
    have := tabF_at g n (i + 1) j (by omega)
    unfold LD at this ⊢
    rw [tabF, List.getD_cons_succ, this]
    congr 1; omega
theorem tabF_congr {g g' : Nat → Int} : ∀ (n i : Nat), (∀ j, i ≤ j → j < i + n → g j = g' j) → tabF g n i = tabF g' n i
  | 0, _, _ => rfl
  | n + 1, i, h => by rw [tabF, tabF, h i (by omega) (by omega), tabF_congr n (i + 1) (fun j h1 h2 => h j (by omega) (by omega))]
theorem sumF_congr {g g' : Nat → Int} : ∀ (n i : Nat), (∀ j, i ≤ j → j < i + n → g j = g' j) → sumF g n i = sumF g' n i
  | 0, _, _ => rfl
  | n + 1, i, h => by rw [sumF, sumF, h i (by omega) (by omega), sumF_congr n (i + 1) (fun j h1 h2 => h j (by omega) (by omega))]
theorem sumF_add (f g : Nat → Int) : ∀ n i, sumF (fun j => f j + g j) n i = sumF f n i + sumF g n i
  | 0, _ => rfl
  | n + 1, i => by rw [sumF, sumF, sumF, sumF_add f g n]; omega
theorem lastF_congr {c c' : Nat → Prop} [DecidablePred c] [DecidablePred c'] : ∀ (n i : Nat) (p : Int), (∀ j, i ≤ j → j < i + n → (c j ↔ c' j)) → lastF c n i p = lastF c' n i p
  | 0, _, _, _ => rfl
  | n + 1, i, p, h => by
    have e : (if c i then (i : Int) else p) = if c' i then (i : Int) else p := by
      have := h i (by omega) (by omega)
      by_cases hc : c i
      · rw [if_pos hc, if_pos (this.1 hc)]
      · rw [if_neg hc, if_neg (fun h => hc (this.2 h))]
    rw [lastF, lastF, e, lastF_congr n (i + 1) _ (fun j h1 h2 => h j (by omega) (by omega))]
theorem lastF_or {a b : Nat → Prop} [DecidablePred a] [DecidablePred b] : ∀ (n i : Nat) (p q : Int), p < i → q < i → lastF (fun j => a j ∨ b j) n i (max p q) = max (lastF a n i p) (lastF b n i q)
  | 0, _, _, _, _, _ => rfl
  | n + 1, i, p, q, hp, hq => by
    rw [lastF, lastF, lastF, ← lastF_or n (i + 1) _ _ (by split <;> omega) (by split <;> omega)]
    congr 1
    by_cases ha : a i
    · rw [if_pos (Or.inl ha), if_pos ha]
      split <;> omega
    · by_cases hb : b i
      · rw [if_pos (Or.inr hb), if_neg ha, if_pos hb]; omega
      · rw [if_neg (fun h => h.elim ha hb), if_neg ha, if_neg hb]
theorem mvL_eq (lp sp off d : Int) (l : List Int) : ∀ (n i : Nat) (p s : Int) (acc : List Int), mvL lp sp off d l n i p s acc =
    (acc ++ tabF (fun j => if up lp sp off d j then 0 else LD l j) n i, lastF (low lp sp off d) n i p, s + sumF (fun j => if up lp sp off d j then LD l j else 0) n i)
  | 0, i, p, s, acc => by simp [mvL, tabF, lastF, sumF]
  | n + 1, i, p, s, acc => by
    rw [mvL, mvL_eq lp sp off d l n, tabF, lastF, sumF, List.append_assoc]
    congr 2
    split <;> omega
/-- The loads behind a motion. -/
def ld1 (lp sp off d : Int) (l : List Int) : List Int := tabF (fun j => if up lp sp off d j then 0 else LD l j) l.length 0
/-- The persons who leave. -/
def lf1 (lp sp off d : Int) (l : List Int) : Int := sumF (fun j => if up lp sp off d j then LD l j else 0) l.length 0
theorem mv_eq {lp sp off d : Int} {l : List Int} (hd : 0 ≤ d ∧ d ≤ sp) : mv lp sp off l d = (lp, sp, (off + d) % lp, ld1 lp sp off d l, lastF (low lp sp off d) l.length 0 (-1), lf1 lp sp off d l, 0) := by
  unfold mv
  rw [if_pos hd, mvL_eq, List.nil_append, Int.zero_add]
  rfl
theorem ld1_length (lp sp off d : Int) (l : List Int) : (ld1 lp sp off d l).length = l.length := tabF_length _ _ _
theorem ld1_at (lp sp off d : Int) (l : List Int) {j : Nat} (h : j < l.length) : LD (ld1 lp sp off d l) j = if up lp sp off d j then 0 else LD l j := by
  unfold ld1
  rw [tabF_at _ _ _ _ h, Nat.zero_add]
theorem pos_move {lp sp off d : Int} (i : Int) : pos lp sp ((off + d) % lp) i = (pos lp sp off i + d) % lp := by
  unfold pos
  rw [Int.emod_add_emod, Int.emod_add_emod]
  congr 1; omega
/-- Where a carrier is behind a motion. -/
theorem pos_next {lp sp off d : Int} {n : Nat} (h : VL lp sp off n) (hd : 0 ≤ d ∧ d ≤ sp) (i : Int) : pos lp sp ((off + d) % lp) i = if pos lp sp off i + d < lp then pos lp sp off i + d else pos lp sp off i + d - lp := by
  have hr := pos_range h i
  have hb := h.bounds
  rw [pos_move]
  split
  · exact Int.emod_eq_of_lt (by omega) (by omega)
  · rw [← Int.sub_emod_right, Int.emod_eq_of_lt (by omega) (by omega)]
theorem VL.move {lp sp off d : Int} {n : Nat} (h : VL lp sp off n) : VL lp sp ((off + d) % lp) n := by
  have hb := h.bounds
  obtain ⟨h1, h2, h3, h4, h5, h6, h7, h8⟩ := h
  exact ⟨h1, h2, h3, h4, h5, h6, Int.emod_nonneg _ (by omega), Int.emod_lt_of_pos _ (by omega)⟩
theorem RL.ld {lp sp off : Int} {l : List Int} {seats : Int} (h : RL lp sp off l seats) {i : Nat} (hi : i < l.length) : 0 ≤ LD l i ∧ LD l i ≤ seats ∧ (pos lp sp off i < lp / 2 ∨ LD l i = 0) := h.at_ hi
theorem RL.move {lp sp off d : Int} {l : List Int} {seats : Int} (hs : 0 ≤ seats) (h : RL lp sp off l seats) (hd : 0 ≤ d ∧ d ≤ sp) : RL lp sp ((off + d) % lp) (ld1 lp sp off d l) seats := by
  have hb := h.1.bounds
  refine RL.mk_ (by rw [ld1_length]; exact h.1.move) (fun i hi => ?_)
  rw [ld1_length] at hi
  have e := ld1_at lp sp off d l hi
  unfold LD at e
  rw [e]
  have hl := h.at_ hi
  have hp := pos_next h.1 hd (i : Int)
  have hr := pos_range h.1 (i : Int)
  by_cases hu : up lp sp off d i
  · rw [if_pos hu]; exact ⟨by omega, hs, Or.inr rfl⟩
  · rw [if_neg hu]
    refine ⟨hl.1, hl.2.1, ?_⟩
    rcases hl.2.2 with h3 | h3
    · left
      have : ¬ pos lp sp off i + d ≥ lp / 2 := fun h => hu ⟨h3, h⟩
      rw [hp, if_pos (by omega)]; omega
    · exact Or.inr h3
theorem ppl_move {lp sp off d : Int} {l : List Int} : ppl (ld1 lp sp off d l) + lf1 lp sp off d l = ppl l := by
  unfold ppl lf1
  rw [ld1_length, ← sumF_add]
  exact sumF_congr _ _ (fun j _ h2 => by
    rw [ld1_at lp sp off d l (by omega)]
    split <;> omega)
theorem lf1_range {lp sp off d : Int} {l : List Int} {seats : Int} (h : RL lp sp off l 16) : 0 ≤ lf1 lp sp off d l ∧ lf1 lp sp off d l ≤ 3200 := by
  have hl : l.length ≤ 200 := by have := h.1; unfold VL at this; omega
  have := sumF_range (f := fun j => if up lp sp off d j then LD l j else 0) (b := 16) l.length 0 (fun j _ hj => by
    have := h.ld (i := j) (by omega)
    split <;> omega)
  unfold lf1
  omega
theorem ppl_range {lp sp off : Int} {l : List Int} (h : RL lp sp off l 16) : 0 ≤ ppl l ∧ ppl l ≤ 3200 := by
  have hl : l.length ≤ 200 := by have := h.1; unfold VL at this; omega
  have := sumF_range (f := LD l) (b := 16) l.length 0 (fun j _ hj => by
    have := h.ld (i := j) (by omega)
    omega)
  unfold ppl
  omega
theorem RL.bb {lp sp off : Int} {l : List Int} {seats : Int} (h : RL lp sp off l seats) : ∀ i : Nat, i < l.length → 0 ≤ LD l i ∧ LD l i ≤ seats := fun i hi => ⟨(h.ld hi).1, (h.ld hi).2.1⟩
end Go.Proofs.Ytkehcgjdgfopdaa.Pure

/- The plain law of ChainBypasses: the printed function answers true for every chain, contact, person and time. -/
import Derived.Test.YteepdedbldnccaaChainKey
import Derived.Test.YteepdedbldnccaaPx33
namespace Go.Proofs.Yteepdedbldnccaa.Pure
set_option linter.unusedVariables false
set_option linter.unusedSimpArgs false
open Go.RowKit Go.Proofs.YteepdedbldnccaaW.PrintWords Go.Proofs.YteepdedbldnccaaW.PrintLast Go.Proofs.YteepdedbldnccaaW.PrintMore Go.Proofs.Yteepdedbldnccaa
theorem bypR_length (l : List P.S48) (key id who u : Int) : (bypR l key id who u).1.length ≤ l.length := by
  unfold bypR; repeat' split
  all_goals simp
theorem oth_true (l : List P.S48) (i : Int) : ∀ n : Nat, n ≤ l.length → (oth l i n = true ↔ ∃ m : Nat, ∃ h : m < n, ∃ h2 : m < l.length, (m : Int) ≠ i ∧ l[m].f4 ≠ 0) := by
  intro n
  induction n with
  | zero => intro _; exact ⟨fun h => (by cases h), fun ⟨m, h, _⟩ => absurd h (Nat.not_lt_zero _)⟩
  | succ n ih =>
    intro hn
    unfold oth
    rw [Bool.or_eq_true, ih (by omega), rdl (by omega), Bool.and_eq_true, bne_iff_ne, bne_iff_ne]
    constructor
    · rintro (⟨m, h, h2, q⟩ | q)
      · exact ⟨m, by omega, h2, q⟩
      · exact ⟨n, by omega, by omega, q⟩
    · rintro ⟨m, h, h2, q⟩
      rcases Nat.lt_or_ge m n with h3 | h3
      · exact .inl ⟨m, h3, h2, q⟩
      · obtain rfl : m = n := by omega
        exact .inr q
theorem oth_bx {l : List P.S48} {key : Int} (hv : V l key) (i : Int) : oth l i l.length = true ↔ (bx l 0 ≥ 0 ∧ bx l 0 ≠ i) := by
  rw [oth_true l i l.length (by omega)]
  rcases bx_cases l 0 with ⟨e, q⟩ | ⟨j, hj, e, q⟩
  · rw [e]
    constructor
    · rintro ⟨m, h, h2, _, q2⟩; exact absurd (q _ (List.getElem_mem h2)) q2
    · rintro ⟨h, _⟩; omega
  · rw [e]
    constructor
    · rintro ⟨m, h, h2, q1, q2⟩
      have : m = j := by
        rcases Nat.lt_trichotomy m j with h3 | h3 | h3
        · rcases (hv.2.2.2.2 m j h2 hj h3).2 with h4 | h4
          · exact absurd h4 q2
          · exact absurd h4 q
        · exact h3
        · rcases (hv.2.2.2.2 j m hj h2 h3).2 with h4 | h4
          · exact absurd h4 q
          · exact absurd h4 q2
      subst this
      exact ⟨by omega, by rw [Int.zero_add]; exact q1⟩
    · rintro ⟨_, h⟩
      exact ⟨j, hj, hj, by rw [Int.zero_add] at h; exact h, q⟩
theorem rbyp_j1 {l : List P.S48} (hl : l.length ≤ 100) (key u : Int) {j : Nat} (hj : j < l.length) (b : Bool) {k : Nat} (hk : 300 ≤ k) : P.skiarearef16_Bypass.j1 k u (j : Int) b l key l[j].f0 l[j].f1 l[j].f2 l[j].f3 l[j].f4 =
    some (if b = true then ([], 0, 15) else if 1 ≤ u ∧ u ≤ 20000000 then (l.set j (unt u l[j]), key, 0) else ([], 0, 2)) := by
  obtain ⟨k, rfl⟩ : ∃ q, k = q + 1 := ⟨k - 1, by omega⟩
  unfold P.skiarearef16_Bypass.j1
  try dsimp only
  cases b with
  | true => rfl
  | false =>
    simp only [Bool.false_eq_true, if_false]
    rw [in_at, Option.bind_some]
    by_cases h : 1 ≤ u ∧ u ≤ 20000000
    · rw [decide_eq_true h, if_pos rfl, if_pos h, with_at hl _ _ _ _ _ _ _ (by omega), Option.bind_some, repl_set]; rfl
    · rw [decide_eq_false h, if_neg (by decide), if_neg h]
theorem rbyp_j0 {l : List P.S48} (hl : l.length ≤ 100) (key u : Int) {j : Nat} (hj : j < l.length) (b : Bool) {k : Nat} (hk : 400 ≤ k) : P.skiarearef16_Bypass.j0 k u (j : Int) b l key l[j].f0 l[j].f1 l[j].f2 l[j].f3 l[j].f4 =
    some (if b = true then ([], 0, 17) else if l[j].f1 = true then ([], 0, 13) else if bx l 0 ≥ 0 ∧ bx l 0 ≠ j then ([], 0, 15) else if 1 ≤ u ∧ u ≤ 20000000 then (l.set j (unt u l[j]), key, 0) else ([], 0, 2)) := by
  obtain ⟨k, rfl⟩ : ∃ q, k = q + 1 := ⟨k - 1, by omega⟩
  unfold P.skiarearef16_Bypass.j0
  try dsimp only
  cases b with
  | true => rfl
  | false =>
    simp only [Bool.false_eq_true, if_false]
    by_cases h1 : l[j].f1 = true
    · rw [if_pos h1, if_pos h1]
    rw [if_neg h1, if_neg h1, byp_at hl (by omega), Option.bind_some, rbyp_j1 hl key u hj _ (by omega), rbyp_j1 hl key u hj _ (by omega)]
    by_cases h2 : bx l 0 ≥ 0
    · rw [if_pos h2]
      by_cases h3 : bx l 0 = j
      · rw [show (bx l 0 != (j : Int)) = false from bne_eq_false_iff_eq.2 h3, if_neg (by decide), if_neg (show ¬ (bx l 0 ≥ 0 ∧ bx l 0 ≠ j) from fun h => h.2 h3)]
      · rw [show (bx l 0 != (j : Int)) = true from bne_iff_ne.2 h3, if_pos rfl, if_pos (show bx l 0 ≥ 0 ∧ bx l 0 ≠ j from ⟨h2, h3⟩)]
    · rw [if_neg h2, if_neg (show ¬ (false = true) by decide), if_neg (show ¬ (bx l 0 ≥ 0 ∧ bx l 0 ≠ j) from fun h => h2 h.1)]
theorem rbypass_at {l : List P.S48} {key : Int} (hv : V l key) (id who u : Int) {k : Nat} (hk : 500 ≤ k) : P.skiarearef16_Bypass.f k l key id who u = some (bypR l key id who u) := by
  have hl : l.length ≤ 100 := by have := hv.1; omega
  unfold P.skiarearef16_Bypass.f bypR
  rw [index_at hl id (by omega), Option.bind_some]
  rcases ix_range l id with e | ⟨j, hj, e, _⟩
  · rw [e, if_pos (by decide), if_pos (by decide)]
  · have hn : ¬ ((j : Int) < 0) := by omega
    rw [e, if_neg hn, if_neg hn, if_pos (show (0 : Int) ≤ j by omega), if_pos (show (j : Int) < l.length by omega), rdl hj, rbyp_j0 hl key u hj _ (by omega), rbyp_j0 hl key u hj _ (by omega), Int.toNat_natCast]
    have ho := oth_bx hv (j : Int)
    have hoif : ∀ (a b : List P.S48 × Int × Int), (if oth l (j : Int) l.length = true then a else b) = (if bx l 0 ≥ 0 ∧ bx l 0 ≠ j then a else b) := by
      intro a b
      by_cases h : oth l (j : Int) l.length = true
      · rw [if_pos h, if_pos (ho.1 h)]
      · rw [if_neg h, if_neg (fun q => h (ho.2 q))]
    rw [hoif]
    by_cases h1 : who = 0
    · rw [if_pos h1, if_pos rfl, if_pos (Or.inl h1)]
    rw [if_neg h1]
    by_cases h2 : who = key
    · rw [show (who != key) = false from bne_eq_false_iff_eq.2 h2, if_neg (by decide), if_neg (show ¬ (who = 0 ∨ who ≠ key) from fun h => Or.elim h h1 (fun h => h h2))]
    · rw [show (who != key) = true from bne_iff_ne.2 h2, if_pos rfl, if_pos (Or.inr h2)]
theorem ChainBypasses (l0_0 : List (P.S48)) (a0_1 : Int) (a1 : Int) (a2 : Int) (a3 : Int) (w0_0 : ∀ x ∈ l0_0, ok48 x) (y0_0 : l0_0.length ≤ 9223372036854775807) (w0_1 : I64 a0_1) (w1 : I64 a1) (w2 : I64 a2) (w3 : I64 a3) : ∃ k, P.skiarealaw16_ChainBypasses.f k l0_0 a0_1 a1 a2 a3 = some true := by
  obtain ⟨k, hk⟩ : ∃ k : Nat, k = 2000 := ⟨_, rfl⟩
  refine ⟨k, ?_⟩
  unfold P.skiarealaw16_ChainBypasses.f
  rw [alive_at (by omega), Option.bind_some, if_pos rfl]
  by_cases hl : l0_0.length > 32
  · rw [rright_long hl, Option.bind_some, if_neg (by decide)]
  rw [rright_at (by omega) a0_1 (by omega), Option.bind_some]
  by_cases h : rg l0_0 a0_1 = 0
  · have q := bypR_length l0_0 a0_1 a1 a2 a3
    rw [if_pos h, bypass_at (by omega) _ _ _ _ (by omega), Option.bind_some, rbypass_at ((rg_V _ _).1 h) _ _ _ (by omega), Option.bind_some, same_at (by omega) _ (by omega), Option.bind_some, if_pos rfl]
    simp
  · rw [if_neg h]
end Go.Proofs.Yteepdedbldnccaa.Pure

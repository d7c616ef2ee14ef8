/- The plain law of ChainOne: the printed function answers true for every chain and operations. -/
import Derived.Test.YteepdedbldnccaaChainDo
import Derived.Test.YteepdedbldnccaaPx39
namespace Go.Proofs.Yteepdedbldnccaa.Pure
set_option linter.unusedVariables false
set_option linter.unusedSimpArgs false
open Go.RowKit Go.Proofs.YteepdedbldnccaaW.PrintWords Go.Proofs.YteepdedbldnccaaW.PrintLast Go.Proofs.YteepdedbldnccaaW.PrintMore Go.Proofs.Yteepdedbldnccaa
theorem one_l1 (x1 : List P.S45) (x6 : Int) {l : List P.S48} {key : Int} (hV : V l key) : ∀ (n j k : Nat) (c : Nat), l.length - j = n → j ≤ l.length → n < k → c ≤ 1 → (c = 1 → key ≠ 0 ∧ ∃ m : Nat, m < j ∧ (G l m).f4 ≠ 0) →
    P.skiarealaw16_ChainOne.l1 k x1 x6 (c : Int) (j : Int) l key = P.skiarealaw16_ChainOne.l0 (k - n - 1) x1 (wrap64 (x6 + 1)) l key := by
  have hV' := (VG l key).1 hV
  intro n
  induction n with
  | zero =>
    intro j k c h1 h2 h3 h4 h5
    obtain ⟨k, rfl⟩ : ∃ q, k = q + 1 := ⟨k - 1, by omega⟩
    conv => lhs; unfold P.skiarealaw16_ChainOne.l1
    try dsimp only
    rw [if_neg (show ¬ ((j : Int) < l.length) by omega), if_neg (show ¬ ((c : Int) > 1) by omega), show k + 1 - 0 - 1 = k by omega]
    by_cases hc : c = 1
    · rw [if_pos (show (c : Int) > 0 by omega), if_neg (h5 hc).1]
    · rw [if_neg (show ¬ ((c : Int) > 0) by omega)]
  | succ n ih =>
    intro j k c h1 h2 h3 h4 h5
    obtain ⟨k, rfl⟩ : ∃ q, k = q + 1 := ⟨k - 1, by omega⟩
    have hj : j < l.length := by clear h5; omega
    have a1 : l.length - (j + 1) = n := by clear h5; omega
    have a2 : j + 1 ≤ l.length := hj
    have a3 : n < k := by clear h5; omega
    conv => lhs; unfold P.skiarealaw16_ChainOne.l1
    try dsimp only
    have hw : wrap64 ((j : Int) + 1) = ((j + 1 : Nat) : Int) := by rw [wrap_at (by omega) (by omega)]; omega
    rw [if_pos (show (j : Int) < l.length by omega), if_pos (show (0 : Int) ≤ j by omega), G_rd, hw, show k + 1 - (n + 1) - 1 = k - n - 1 by omega]
    by_cases h0 : (G l j).f4 = 0
    · rw [if_pos h0]
      refine ih (j + 1) k c a1 a2 a3 h4 (fun hc => ?_)
      obtain ⟨hk, m, hm, q⟩ := h5 hc
      exact ⟨hk, m, Nat.lt_succ_of_lt hm, q⟩
    · have hok := hV'.2.2.2.1 j hj
      have hc0 : c = 0 := by
        rcases Nat.lt_or_ge c 1 with h | h
        · omega
        · obtain ⟨m, hm, q⟩ := (h5 (by omega)).2
          rcases (hV'.2.2.2.2 m j hj hm).2 with e | e
          · exact absurd e q
          · exact absurd e h0
      subst hc0
      rw [if_neg h0, if_neg (fun h => h0 (hok.2.2.2.2.2.1 h)), show wrap64 (((0 : Nat) : Int) + 1) = ((1 : Nat) : Int) from wrap_at (by omega) (by omega)]
      exact ih (j + 1) k 1 a1 a2 a3 (Nat.le_refl 1) (fun _ => ⟨hok.2.2.2.2.2.2 h0, j, Nat.lt_succ_self j, h0⟩)
theorem one_l0 (l : List P.S45) (hl : l.length ≤ 30) : ∀ (n j k : Nat) (now : List P.S48) (key : Int), l.length - j ≤ n → j ≤ l.length → 40 * n + 500 < k → V now key →
    P.skiarealaw16_ChainOne.l0 k l (j : Int) now key = some true := by
  intro n
  induction n with
  | zero =>
    intro j k now key h1 h2 h3 hV
    obtain ⟨k, rfl⟩ : ∃ q, k = q + 1 := ⟨k - 1, by omega⟩
    unfold P.skiarealaw16_ChainOne.l0
    try dsimp only
    rw [if_neg (by omega)]
  | succ n ih =>
    intro j k now key h1 h2 h3 hV
    obtain ⟨k, rfl⟩ : ∃ q, k = q + 1 := ⟨k - 1, by omega⟩
    have hnl := hV.1
    unfold P.skiarealaw16_ChainOne.l0
    try dsimp only
    by_cases h : j < l.length
    · have D := did hV (P.rd_T45 l (j : Int)).f0 (P.rd_T45 l (j : Int)).f1 (P.rd_T45 l (j : Int)).f2 (P.rd_T45 l (j : Int)).f3
      have hl2 := D.v.1
      rw [if_pos (show (j : Int) < l.length by omega), if_pos (show (0 : Int) ≤ j by omega), do_at (by omega) _ _ _ _ _ (by omega), Option.bind_some]
      have := one_l1 l (j : Int) D.v _ 0 k 0 rfl (by omega) (by omega) (by omega) (fun h => by omega)
      rw [show ((0 : Nat) : Int) = 0 from rfl] at this
      rw [this, wrap_at (by omega) (by omega), show ((j : Int) + 1) = ((j + 1 : Nat) : Int) from by omega]
      exact ih (j + 1) _ _ _ (by omega) (by omega) (by omega) D.v
    · rw [if_neg (by omega)]
theorem ChainOne (l0_0 : List (P.S48)) (a0_1 : Int) (l1 : List (P.S45)) (w0_0 : ∀ x ∈ l0_0, ok48 x) (y0_0 : l0_0.length ≤ 9223372036854775807) (w0_1 : I64 a0_1) (w1 : ∀ x ∈ l1, ok45 x) (y1 : l1.length ≤ 9223372036854775807) : ∃ k, P.skiarealaw16_ChainOne.f k l0_0 a0_1 l1 = some true := by
  obtain ⟨k, hk⟩ : ∃ k : Nat, k = 3000 := ⟨_, rfl⟩
  refine ⟨k, ?_⟩
  unfold P.skiarealaw16_ChainOne.f
  rw [alive_at (by omega), Option.bind_some, if_pos rfl]
  have hj : ∀ b : Bool, (b = false → l1.length ≤ 30 ∧ V l0_0 a0_1) → P.skiarealaw16_ChainOne.j0 k l1 b l0_0 a0_1 = some true := by
    intro b hb
    obtain ⟨k, rfl⟩ : ∃ q, k = q + 1 := ⟨k - 1, by omega⟩
    unfold P.skiarealaw16_ChainOne.j0
    try dsimp only
    cases b with
    | true => rfl
    | false =>
      obtain ⟨hl, hV⟩ := hb rfl
      rw [if_neg (by decide)]
      exact one_l0 l1 hl l1.length 0 k l0_0 a0_1 (by omega) (by omega) (by omega) hV
  by_cases hl : l0_0.length > 32
  · rw [right_long hl, Option.bind_some, if_neg (by decide), hj _ (fun h => by cases h)]
  rw [right_at (by omega) a0_1 (by omega), Option.bind_some]
  by_cases h : rg l0_0 a0_1 = 0
  · rw [if_pos h]
    exact hj _ (fun hb => ⟨by have := of_decide_eq_false hb; omega, (rg_V _ _).1 h⟩)
  · rw [if_neg h, hj _ (fun h => by cases h)]
end Go.Proofs.Yteepdedbldnccaa.Pure

/- The plain law of ChainStays: the printed function answers true for every chain and operations. -/
import Derived.Test.YteepdedbldnccaaChainDo
import Derived.Test.YteepdedbldnccaaPx38
namespace Go.Proofs.Yteepdedbldnccaa.Pure
set_option linter.unusedVariables false
set_option linter.unusedSimpArgs false
open Go.RowKit Go.Proofs.YteepdedbldnccaaW.PrintWords Go.Proofs.YteepdedbldnccaaW.PrintLast Go.Proofs.YteepdedbldnccaaW.PrintMore Go.Proofs.Yteepdedbldnccaa
theorem lsame_l0 {a b : List P.S48} (hK : Keep b a) (hl : b.length ≤ 100) (x y : Int) : ∀ (n j k : Nat), a.length - j ≤ n → j ≤ a.length → n < k → P.skiarealaw16_same.l0 k (j : Int) a x b y = some true := by
  have ha := hK.1
  intro n
  induction n with
  | zero =>
    intro j k h1 h2 h3
    obtain ⟨k, rfl⟩ : ∃ q, k = q + 1 := ⟨k - 1, by omega⟩
    unfold P.skiarealaw16_same.l0
    try dsimp only
    rw [if_neg (by omega)]
  | succ n ih =>
    intro j k h1 h2 h3
    obtain ⟨k, rfl⟩ : ∃ q, k = q + 1 := ⟨k - 1, by omega⟩
    unfold P.skiarealaw16_same.l0
    try dsimp only
    by_cases h : j < a.length
    · have hq := hK.2 j (by omega)
      rw [if_pos (show (j : Int) < a.length by omega), if_pos (show (0 : Int) ≤ j by omega), if_pos (show (j : Int) < b.length by omega), G_rd, G_rd, hq.1, if_pos rfl, hq.2, if_neg (by simp), wrap_at (by omega) (by omega), show ((j : Int) + 1) = ((j + 1 : Nat) : Int) from by omega]
      exact ih (j + 1) k (by omega) (by omega) (by omega)
    · rw [if_neg (by omega)]
theorem lsame_at {a b : List P.S48} (hK : Keep b a) (hl : b.length ≤ 100) (x y : Int) {k : Nat} (hk : 200 ≤ k) : P.skiarealaw16_same.f k a x b y = some true := by
  have ha := hK.1
  unfold P.skiarealaw16_same.f
  rw [if_pos (by omega)]
  exact lsame_l0 hK hl x y a.length 0 k (by omega) (by omega) (by omega)
theorem stays_l0 {c : List P.S48} {ck : Int} (hc : V c ck) (l : List P.S45) (hl : l.length ≤ 30) : ∀ (n j k : Nat) (now : List P.S48) (key : Int), l.length - j ≤ n → j ≤ l.length → n + 500 < k → V now key → Keep c now →
    P.skiarealaw16_ChainStays.l0 k l (j : Int) c ck now key = some true := by
  have hcl := hc.1
  intro n
  induction n with
  | zero =>
    intro j k now key h1 h2 h3 hV hK
    obtain ⟨k, rfl⟩ : ∃ q, k = q + 1 := ⟨k - 1, by omega⟩
    unfold P.skiarealaw16_ChainStays.l0
    try dsimp only
    rw [if_neg (by omega)]
  | succ n ih =>
    intro j k now key h1 h2 h3 hV hK
    obtain ⟨k, rfl⟩ : ∃ q, k = q + 1 := ⟨k - 1, by omega⟩
    have hnl := hV.1
    unfold P.skiarealaw16_ChainStays.l0
    try dsimp only
    by_cases h : j < l.length
    · have D := did hV (P.rd_T45 l (j : Int)).f0 (P.rd_T45 l (j : Int)).f1 (P.rd_T45 l (j : Int)).f2 (P.rd_T45 l (j : Int)).f3
      have hl2 := D.v.1
      rw [if_pos (show (j : Int) < l.length by omega), if_pos (show (0 : Int) ≤ j by omega), do_at (by omega) _ _ _ _ _ (by omega), Option.bind_some, right_at (by omega) _ (by omega), Option.bind_some, if_pos ((rg_V _ _).2 D.v), lsame_at (hK.trans D.keep) (by omega) _ _ (by omega), Option.bind_some, if_pos rfl, wrap_at (by omega) (by omega), show ((j : Int) + 1) = ((j + 1 : Nat) : Int) from by omega]
      exact ih (j + 1) k _ _ (by omega) (by omega) (by omega) D.v (hK.trans D.keep)
    · rw [if_neg (by omega)]
theorem ChainStays (l0_0 : List (P.S48)) (a0_1 : Int) (l1 : List (P.S45)) (w0_0 : ∀ x ∈ l0_0, ok48 x) (y0_0 : l0_0.length ≤ 9223372036854775807) (w0_1 : I64 a0_1) (w1 : ∀ x ∈ l1, ok45 x) (y1 : l1.length ≤ 9223372036854775807) : ∃ k, P.skiarealaw16_ChainStays.f k l0_0 a0_1 l1 = some true := by
  obtain ⟨k, hk⟩ : ∃ k : Nat, k = 2000 := ⟨_, rfl⟩
  refine ⟨k, ?_⟩
  unfold P.skiarealaw16_ChainStays.f
  rw [alive_at (by omega), Option.bind_some, if_pos rfl]
  have hj : ∀ b : Bool, (b = false → l1.length ≤ 30 ∧ V l0_0 a0_1) → P.skiarealaw16_ChainStays.j0 k l1 b l0_0 a0_1 = some true := by
    intro b hb
    obtain ⟨k, rfl⟩ : ∃ q, k = q + 1 := ⟨k - 1, by omega⟩
    unfold P.skiarealaw16_ChainStays.j0
    try dsimp only
    cases b with
    | true => rfl
    | false =>
      obtain ⟨hl, hV⟩ := hb rfl
      rw [if_neg (by decide)]
      exact stays_l0 hV l1 hl l1.length 0 k l0_0 a0_1 (by omega) (by omega) (by omega) hV (Keep.refl _)
  by_cases hl : l0_0.length > 32
  · rw [right_long hl, Option.bind_some, if_neg (by decide), hj _ (fun h => by cases h)]
  rw [right_at (by omega) a0_1 (by omega), Option.bind_some]
  by_cases h : rg l0_0 a0_1 = 0
  · rw [if_pos h]
    exact hj _ (fun hb => ⟨by have := of_decide_eq_false hb; omega, (rg_V _ _).1 h⟩)
  · rw [if_neg h, hj _ (fun h => by cases h)]
end Go.Proofs.Yteepdedbldnccaa.Pure

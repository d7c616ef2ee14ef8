/- The cells of a row that is read, one behind the other; nothing of the program. -/
import Derived.Test.YtkehcgjdgfopdaaMy
namespace Go.Proofs.Ytkehcgjdgfopdaa
open Go.RowKit Go.Proofs.YtkehcgjdgfopdaaW.PrintWords
theorem row_cells {α : Type} {d : Kd α} {w : World} {ad : Addr} {n : Nat} {xs : List α} (h : d.C w (some ad) n xs) :
    ∃ news : List Value, news.length = n * d.sz ∧ (∀ (j : Nat) (u : Value), news[j]? = some u → w.cell? (ad.add j) = some u) ∧ (∀ u ∈ news, u.oneCell' = true) ∧ Reps (fun x c => d.K w x c) d.sz xs news := by
  obtain ⟨hl, _, hc⟩ := h
  have key : ∀ m, m ≤ n → ∃ news : List Value, news.length = m * d.sz ∧ (∀ (j : Nat) (u : Value), news[j]? = some u → w.cell? (ad.add j) = some u) ∧ (∀ u ∈ news, u.oneCell' = true) ∧ Reps (fun x c => d.K w x c) d.sz (xs.take m) news := by
    intro m
    induction m with
    | zero => intro _; exact ⟨[], by simp, by simp, by simp, by rw [List.take_zero]; exact Reps.none _ _⟩
    | succ m ih =>
      intro hm
      obtain ⟨news, h1, h2, h3, h4⟩ := ih (by omega)
      obtain ⟨ad', he, hcell⟩ := hc (by omega)
      injection he with he
      subst he
      have hlt : m < xs.length := by omega
      obtain ⟨c, k1, k2, k3⟩ := hcell m _ (List.getElem?_eq_getElem hlt)
      refine ⟨news ++ c, by rw [List.length_append, h1, k1, Nat.add_mul, Nat.one_mul], fun j u hu => ?_, fun u hu => ?_, ?_⟩
      · rcases Nat.lt_or_ge j news.length with hj | hj
        · rw [List.getElem?_append_left hj] at hu; exact h2 j u hu
        · rw [List.getElem?_append_right hj] at hu
          have := k3 _ u hu
          rw [h1] at this hj
          rw [show m * d.sz + (j - m * d.sz) = j by omega] at this
          exact this
      · rcases List.mem_append.1 hu with hu | hu
        · exact h3 u hu
        · exact d.K_one k2 u hu
      · rw [List.take_succ_eq_append_getElem hlt]
        exact h4.snoc k2 k1
  obtain ⟨news, h1, h2, h3, h4⟩ := key n (Nat.le_refl _)
  rw [List.take_of_length_le (by omega)] at h4
  exact ⟨news, h1, h2, h3, h4⟩
end Go.Proofs.Ytkehcgjdgfopdaa
